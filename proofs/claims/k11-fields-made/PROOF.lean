import PyProof.Rows.All
import Wide.All
import OpenK.AllK
import Wide.FinOn
import KE.KStateDown
import HandS.ForMost
import HandS.Walk
import HandS.Style
import HandS.Zip
import HandS.Defaults
import HandS.Property
import HandS.MakeKwOnly
import HandS.HeadHook4
import HandS.IsInst
import HandS.TupAny
import HandS.Deep
import HandS.WordsExc
import HandS.MakeKw
import HandS.ExcOwn
import HandS.IterVal
import PyProof.FitsInt
import HandS.EndBits
import HandS.HeadWalk
import HandS.Conv
import HandS.Head0
import HandS.SortInts
import HandS.WordsDict
import HandS.More
import HandS.SortKw
import KE.KEqDict
import HandS.OwnEq
import HandS.FStr
import HandS.Head2
import PySem.Challenge.RW_turnpowers_k11_whole_fields_made
import HandS.Head1
import HandS.HeadEnd
section
set_option Elab.async false
set_option linter.all false
set_option maxRecDepth 100000
set_option maxHeartbeats 2000000
/-! TpA: plain data, how it lies in the abstract heap, what a piece of code may change. -/
namespace Tp
open PySem PySem.Spec PyProof.Rows L2

/-- plain data: what a value tells, without addresses. obj c: an instance of the class number c with its attributes in the order in which they were stored; cell n: the n-th mutable list that is passed about -/
inductive D where
  | non
  | bl (b : Bool)
  | int (i : Int)
  | str (s : Str)
  | lst (xs : List D)
  /-- a list that belongs to somebody else (the script): read only -/
  | fz (xs : List D)
  | tup (xs : List D)
  | dct (kvs : List (Key × D))
  | obj (c : Nat) (xs : List D)
  | cell (n : Nat)

/-- where the code runs -/
structure Gam where
  P : Program
  w : World
  K : PySem.W.Frag
  mg : Str → Option Value
  base : Heap
  /-- the classes: name, attributes in order -/
  cd : Nat → Str × List Str
  /-- the exceptions' attributes -/
  xf : Str → List Str

/-- the immutable part of the heap and the cells -/
structure Im where
  G : Hp
  κ : List Addr
  /-- the instance in the making -/
  me : Option Addr

section
variable (Γ : Gam)
mutual
def Rep (I : Im) : D → V → Prop
  | .non, v => v = .non
  | .bl b, v => v = .bl b
  | .int i, v => v = .int i
  | .str s, v => v = .str s
  | .lst xs, v => ∃ a vs, v = .ref a ∧ I.G a = some (.lst vs) ∧ Reps I xs vs
  | .fz xs, v => ∃ a vs, v = .ref a ∧ SqL Γ.K I.G a vs ∧ Reps I xs vs
  | .tup xs, v => ∃ a vs, v = .ref a ∧ SqT Γ.K I.G a vs ∧ Reps I xs vs
  | .dct kvs, v => ∃ a o us, v = .ref a ∧ I.G a = some (.frz o (.dK us)) ∧ RepK I kvs us
  | .obj c xs, v => ∃ a dx us, v = .ref a ∧ I.G a = some (.ins (He.ga Γ.K (Γ.cd c).1) dx us) ∧ us.map (·.1) = (Γ.cd c).2 ∧ Reps I xs (us.map (·.2))
  | .cell n, v => ∃ a, v = .ref a ∧ I.κ[n]? = some a
def Reps (I : Im) : List D → List V → Prop
  | [], vs => vs = []
  | x :: xs, vs => ∃ v r, vs = v :: r ∧ Rep I x v ∧ Reps I xs r
def RepK (I : Im) : List (Key × D) → List (Key × V) → Prop
  | [], vs => vs = []
  | x :: xs, vs => ∃ v r, vs = (x.1, v) :: r ∧ Rep I x.2 v ∧ RepK I xs r
end

/-- the state as the data tell it: T what the cells hold -/
structure Wf (H : Hp) (I : Im) (T : List (List D)) : Prop where
  gh : ∀ a o, I.G a = some o → H a = some o
  nd : I.κ.Nodup
  kg : ∀ a, a ∈ I.κ → I.G a = none
  len : I.κ.length = T.length
  cells : ∀ (n : Nat) a ds, I.κ[n]? = some a → T[n]? = some ds → ∃ vs, H a = some (.lst vs) ∧ Reps Γ I ds vs
end

/-- what may have become of the heap: all that was tracked, but the cells and what O owns, is as it was -/
structure Ext (O : Addr → Prop) (H : Hp) (I : Im) (H' : Hp) (I' : Im) : Prop where
  gg : ∀ a o, I.G a = some o → I'.G a = some o
  kk : ∀ (n : Nat) a, I.κ[n]? = some a → I'.κ[n]? = some a
  fr : ∀ a o, H a = some o → a ∉ I.κ → ¬ O a → H' a = some o
  th : ∀ a, H a ≠ none → H' a ≠ none
  gn : ∀ a, I'.G a ≠ none → I.G a ≠ none ∨ H a = none ∨ O a
  kn : ∀ a, a ∈ I'.κ → a ∈ I.κ ∨ H a = none
  mm : I'.me = I.me

abbrev O0 : Addr → Prop := fun _ => False

section
variable {Γ : Gam}
theorem Ext.refl {O : Addr → Prop} {H : Hp} {I : Im} : Ext O H I H I :=
  ⟨fun _ _ h => h, fun _ _ h => h, fun _ _ h _ _ => h, fun _ h => h, fun _ h => .inl h, fun _ h => .inl h, rfl⟩
theorem Ext.trans {O O1 O2 : Addr → Prop} {H H1 H2 : Hp} {I I1 I2 : Im} (a : Ext O1 H I H1 I1) (b : Ext O2 H1 I1 H2 I2)
    (h1 : ∀ x, O1 x → O x) (h2 : ∀ x, O2 x → O x ∨ H x = none) : Ext O H I H2 I2 where
  gg := fun x o h => b.gg x o (a.gg x o h)
  kk := fun n x h => b.kk n x (a.kk n x h)
  fr := fun x o h nk no => b.fr x o (a.fr x o h nk fun q => no (h1 x q)) (fun q => (a.kn x q).elim nk fun z => by rw [h] at z; cases z)
    fun q => (h2 x q).elim no fun z => by rw [h] at z; cases z
  th := fun x h => b.th x (a.th x h)
  gn := fun x h => by
    rcases b.gn x h with q | q | q
    · rcases a.gn x q with r | r | r
      · exact .inl r
      · exact .inr (.inl r)
      · exact .inr (.inr (h1 x r))
    · refine .inr (.inl ?_)
      cases e : H x with
      | none => rfl
      | some o => exact absurd q (a.th x (by rw [e]; simp))
    · rcases h2 x q with r | r
      · exact .inr (.inr r)
      · exact .inr (.inl r)
  mm := b.mm.trans a.mm
  kn := fun x h => by
    rcases b.kn x h with q | q
    · exact a.kn x q
    · refine .inr ?_
      cases e : H x with
      | none => rfl
      | some o => exact absurd q (a.th x (by rw [e]; simp))
theorem Ext.tr0 {H H1 H2 : Hp} {I I1 I2 : Im} (a : Ext O0 H I H1 I1) (b : Ext O0 H1 I1 H2 I2) : Ext O0 H I H2 I2 := a.trans b (fun _ h => h) fun _ h => h.elim
theorem Ext.mono {O O' : Addr → Prop} {H H' : Hp} {I I' : Im} (a : Ext O H I H' I') (h : ∀ x, O x → O' x) : Ext O' H I H' I' :=
  a.trans Ext.refl h fun _ q => .inl q
/-- tracked things stay readable -/
theorem SqL.ext {K : PySem.W.Frag} {G G' : Hp} {a : Addr} {vs : List V} (h : ∀ a o, G a = some o → G' a = some o) (q : SqL K G a vs) : SqL K G' a vs := by
  rcases q with (q | ⟨o, q⟩) | q
  · exact .inl (.inl (h _ _ q))
  · exact .inl (.inr ⟨o, h _ _ q⟩)
  · exact .inr q
theorem SqT.ext {K : PySem.W.Frag} {G G' : Hp} {a : Addr} {vs : List V} (h : ∀ a o, G a = some o → G' a = some o) (q : SqT K G a vs) : SqT K G' a vs := by
  rcases q with (q | ⟨o, q⟩) | q
  · exact .inl (.inl (h _ _ q))
  · exact .inl (.inr ⟨o, h _ _ q⟩)
  · exact .inr q

structure Im.Le (I I' : Im) : Prop where
  gg : ∀ a o, I.G a = some o → I'.G a = some o
  kk : ∀ (n : Nat) a, I.κ[n]? = some a → I'.κ[n]? = some a
  mm : I'.me = I.me
theorem Ext.le {O : Addr → Prop} {H H' : Hp} {I I' : Im} (e : Ext O H I H' I') : Im.Le I I' := ⟨e.gg, e.kk, e.mm⟩

mutual
theorem Rep.mono0 {I I' : Im} (eg : ∀ a o, I.G a = some o → I'.G a = some o) (ek : ∀ (n : Nat) a, I.κ[n]? = some a → I'.κ[n]? = some a) : ∀ {d : D} {v : V}, Rep Γ I d v → Rep Γ I' d v
  | .non, _, h => h
  | .bl _, _, h => h
  | .int _, _, h => h
  | .str _, _, h => h
  | .lst _, _, h => by
    simp only [Rep] at h ⊢
    obtain ⟨a, vs, h1, h2, h3⟩ := h
    exact ⟨a, vs, h1, eg _ _ h2, Reps.mono0 eg ek h3⟩
  | .fz _, _, h => by
    simp only [Rep] at h ⊢
    obtain ⟨a, vs, h1, h2, h3⟩ := h
    exact ⟨a, vs, h1, SqL.ext eg h2, Reps.mono0 eg ek h3⟩
  | .tup _, _, h => by
    simp only [Rep] at h ⊢
    obtain ⟨a, vs, h1, h2, h3⟩ := h
    exact ⟨a, vs, h1, SqT.ext eg h2, Reps.mono0 eg ek h3⟩
  | .dct _, _, h => by
    simp only [Rep] at h ⊢
    obtain ⟨a, o, vs, h1, h2, h3⟩ := h
    exact ⟨a, o, vs, h1, eg _ _ h2, RepK.mono0 eg ek h3⟩
  | .obj _ _, _, h => by
    simp only [Rep] at h ⊢
    obtain ⟨a, dx, vs, h1, h2, h3, h4⟩ := h
    exact ⟨a, dx, vs, h1, eg _ _ h2, h3, Reps.mono0 eg ek h4⟩
  | .cell _, _, h => by
    simp only [Rep] at h ⊢
    obtain ⟨a, h1, h2⟩ := h
    exact ⟨a, h1, ek _ _ h2⟩
theorem Reps.mono0 {I I' : Im} (eg : ∀ a o, I.G a = some o → I'.G a = some o) (ek : ∀ (n : Nat) a, I.κ[n]? = some a → I'.κ[n]? = some a) : ∀ {ds : List D} {vs : List V}, Reps Γ I ds vs → Reps Γ I' ds vs
  | [], _, h => h
  | _ :: _, _, h => by
    simp only [Reps] at h ⊢
    obtain ⟨v, r, h1, h2, h3⟩ := h
    exact ⟨v, r, h1, Rep.mono0 eg ek h2, Reps.mono0 eg ek h3⟩
theorem RepK.mono0 {I I' : Im} (eg : ∀ a o, I.G a = some o → I'.G a = some o) (ek : ∀ (n : Nat) a, I.κ[n]? = some a → I'.κ[n]? = some a) : ∀ {ds : List (Key × D)} {vs : List (Key × V)}, RepK Γ I ds vs → RepK Γ I' ds vs
  | [], _, h => h
  | _ :: _, _, h => by
    simp only [RepK] at h ⊢
    obtain ⟨v, r, h1, h2, h3⟩ := h
    exact ⟨v, r, h1, Rep.mono0 eg ek h2, RepK.mono0 eg ek h3⟩
end

theorem Rep.mono {I I' : Im} (e : Im.Le I I') {d : D} {v : V} (h : Rep Γ I d v) : Rep Γ I' d v := Rep.mono0 e.gg e.kk h
theorem Reps.mono {I I' : Im} (e : Im.Le I I') {ds : List D} {vs : List V} (h : Reps Γ I ds vs) : Reps Γ I' ds vs := Reps.mono0 e.gg e.kk h
theorem RepK.mono {I I' : Im} (e : Im.Le I I') {ds : List (Key × D)} {vs : List (Key × V)} (h : RepK Γ I ds vs) : RepK Γ I' ds vs := RepK.mono0 e.gg e.kk h

theorem Reps.length {I : Im} : ∀ {ds : List D} {vs : List V}, Reps Γ I ds vs → vs.length = ds.length
  | [], _, h => by simp only [Reps] at h; simp [h]
  | _ :: ds, _, h => by
    simp only [Reps] at h
    obtain ⟨v, r, h1, _, h3⟩ := h
    rw [h1, List.length_cons, List.length_cons, Reps.length h3]
theorem Reps.nil {I : Im} : Reps Γ I [] [] := by simp only [Reps]
theorem Reps.cons {I : Im} {d : D} {ds : List D} {v : V} {vs : List V} (h : Rep Γ I d v) (r : Reps Γ I ds vs) : Reps Γ I (d :: ds) (v :: vs) := by
  simp only [Reps]; exact ⟨v, vs, rfl, h, r⟩
theorem Reps.append {I : Im} : ∀ {ds es : List D} {vs us : List V}, Reps Γ I ds vs → Reps Γ I es us → Reps Γ I (ds ++ es) (vs ++ us)
  | [], _, _, _, h, q => by simp only [Reps] at h; subst h; exact q
  | _ :: ds, _, _, _, h, q => by
    simp only [Reps] at h
    obtain ⟨v, r, rfl, h2, h3⟩ := h
    exact Reps.cons h2 (Reps.append h3 q)
theorem Reps.get {I : Im} : ∀ {ds : List D} {vs : List V} {n : Nat} {d : D}, Reps Γ I ds vs → ds[n]? = some d → ∃ v, vs[n]? = some v ∧ Rep Γ I d v
  | [], _, _, _, h, e => by simp at e
  | d0 :: ds, _, 0, d, h, e => by
    simp only [Reps] at h
    obtain ⟨v, r, rfl, h2, h3⟩ := h
    simp at e; subst e
    exact ⟨v, rfl, h2⟩
  | d0 :: ds, _, n + 1, d, h, e => by
    simp only [Reps] at h
    obtain ⟨v, r, rfl, h2, h3⟩ := h
    obtain ⟨u, h4, h5⟩ := Reps.get (n := n) h3 (by simpa using e)
    exact ⟨u, by simpa using h4, h5⟩
theorem Reps.get' {I : Im} : ∀ {ds : List D} {vs : List V} {n : Nat} {v : V}, Reps Γ I ds vs → vs[n]? = some v → ∃ d, ds[n]? = some d ∧ Rep Γ I d v := fun {ds vs n v} h e => by
  have hl := h.length
  have hn : n < ds.length := by rw [← hl]; exact (List.getElem?_eq_some_iff.mp e).1
  obtain ⟨u, h1, h2⟩ := h.get (n := n) (d := ds[n]) (by simp [hn])
  rw [e] at h1; cases h1
  exact ⟨_, by simp [hn], h2⟩
theorem Reps.set {I : Im} {d : D} {v : V} (r : Rep Γ I d v) : ∀ {ds : List D} {vs : List V} {n : Nat}, Reps Γ I ds vs → Reps Γ I (ds.set n d) (vs.set n v)
  | [], _, n, h => by simp only [Reps] at h; subst h; simp [Reps]
  | d0 :: ds, _, 0, h => by
    simp only [Reps] at h
    obtain ⟨v0, r0, rfl, h2, h3⟩ := h
    exact Reps.cons r h3
  | d0 :: ds, _, n + 1, h => by
    simp only [Reps] at h
    obtain ⟨v0, r0, rfl, h2, h3⟩ := h
    exact Reps.cons h2 (Reps.set r h3)
theorem Reps.take {I : Im} : ∀ {ds : List D} {vs : List V} (n : Nat), Reps Γ I ds vs → Reps Γ I (ds.take n) (vs.take n)
  | [], _, n, h => by simp only [Reps] at h; subst h; simp [Reps]
  | _ :: _, _, 0, _ => by simp [Reps]
  | d0 :: ds, _, n + 1, h => by
    simp only [Reps] at h
    obtain ⟨v0, r0, rfl, h2, h3⟩ := h
    exact Reps.cons h2 (Reps.take n h3)
theorem Reps.drop {I : Im} : ∀ {ds : List D} {vs : List V} (n : Nat), Reps Γ I ds vs → Reps Γ I (ds.drop n) (vs.drop n)
  | [], _, n, h => by simp only [Reps] at h; subst h; simp [Reps]
  | _ :: _, _, 0, h => by simpa using h
  | d0 :: ds, _, n + 1, h => by
    simp only [Reps] at h
    obtain ⟨v0, r0, rfl, h2, h3⟩ := h
    simpa using Reps.drop n h3
theorem Reps.erase {I : Im} : ∀ {ds : List D} {vs : List V} (n : Nat), Reps Γ I ds vs → Reps Γ I (ds.eraseIdx n) (vs.eraseIdx n)
  | [], _, n, h => by simp only [Reps] at h; subst h; simp [Reps]
  | d0 :: ds, _, 0, h => by
    simp only [Reps] at h
    obtain ⟨v0, r0, rfl, h2, h3⟩ := h
    simpa using h3
  | d0 :: ds, _, n + 1, h => by
    simp only [Reps] at h
    obtain ⟨v0, r0, rfl, h2, h3⟩ := h
    exact Reps.cons h2 (Reps.erase n h3)
theorem Reps.rev {I : Im} : ∀ {ds : List D} {vs : List V}, Reps Γ I ds vs → Reps Γ I ds.reverse vs.reverse
  | [], _, h => by simp only [Reps] at h; subst h; simp [Reps]
  | d0 :: ds, _, h => by
    simp only [Reps] at h
    obtain ⟨v0, r0, rfl, h2, h3⟩ := h
    rw [List.reverse_cons, List.reverse_cons]
    exact (Reps.rev h3).append (Reps.cons h2 Reps.nil)
theorem Reps.rep {I : Im} {ds : List D} {vs : List V} (h : Reps Γ I ds vs) : ∀ n : Nat, Reps Γ I (List.replicate n ds).flatten (List.replicate n vs).flatten
  | 0 => by simp [Reps]
  | n + 1 => by
    rw [List.replicate_succ, List.replicate_succ, List.flatten_cons, List.flatten_cons]
    exact h.append (Reps.rep h n)
theorem Reps.dropLast {I : Im} {ds : List D} {vs : List V} (h : Reps Γ I ds vs) : Reps Γ I ds.dropLast vs.dropLast := by
  rw [List.dropLast_eq_take, List.dropLast_eq_take, h.length]
  exact h.take _
/-- what a value of plain data is, if it is an int .. -/
theorem Rep.int {I : Im} {i : Int} {v : V} (h : Rep Γ I (.int i) v) : v = .int i := by simpa only [Rep] using h
theorem Rep.bl {I : Im} {i : Bool} {v : V} (h : Rep Γ I (.bl i) v) : v = .bl i := by simpa only [Rep] using h
theorem Rep.non {I : Im} {v : V} (h : Rep Γ I .non v) : v = .non := by simpa only [Rep] using h
theorem Rep.str {I : Im} {s : Str} {v : V} (h : Rep Γ I (.str s) v) : v = .str s := by simpa only [Rep] using h
theorem Rep.ofInt {I : Im} {i : Int} : Rep Γ I (.int i) (.int i) := by simp only [Rep]
theorem Rep.ofBl {I : Im} {i : Bool} : Rep Γ I (.bl i) (.bl i) := by simp only [Rep]
theorem Rep.ofNon {I : Im} : Rep Γ I .non .non := by simp only [Rep]
theorem Rep.ofStr {I : Im} {s : Str} : Rep Γ I (.str s) (.str s) := by simp only [Rep]
theorem Rep.fz {I : Im} {xs : List D} {v : V} (h : Rep Γ I (.fz xs) v) : ∃ a vs, v = .ref a ∧ SqL Γ.K I.G a vs ∧ Reps Γ I xs vs := by simpa only [Rep] using h
theorem Rep.lst {I : Im} {xs : List D} {v : V} (h : Rep Γ I (.lst xs) v) : ∃ a vs, v = .ref a ∧ I.G a = some (.lst vs) ∧ Reps Γ I xs vs := by simpa only [Rep] using h
theorem Rep.tup {I : Im} {xs : List D} {v : V} (h : Rep Γ I (.tup xs) v) : ∃ a vs, v = .ref a ∧ SqT Γ.K I.G a vs ∧ Reps Γ I xs vs := by simpa only [Rep] using h
theorem Rep.ofLst {I : Im} {xs : List D} {a : Addr} {vs : List V} (h : I.G a = some (.lst vs)) (r : Reps Γ I xs vs) : Rep Γ I (.lst xs) (.ref a) := by simp only [Rep]; exact ⟨a, vs, rfl, h, r⟩
theorem Rep.ofTup {I : Im} {xs : List D} {a : Addr} {vs : List V} (h : SqT Γ.K I.G a vs) (r : Reps Γ I xs vs) : Rep Γ I (.tup xs) (.ref a) := by simp only [Rep]; exact ⟨a, vs, rfl, h, r⟩
theorem Reps.ints {I : Im} : ∀ {ns : List Int} {vs : List V}, Reps Γ I (ns.map D.int) vs → vs = ns.map V.int
  | [], _, h => by simpa [Reps] using h
  | n :: ns, _, h => by
    simp only [List.map_cons, Reps] at h
    obtain ⟨v, r, rfl, h2, h3⟩ := h
    rw [Rep.int h2, Reps.ints h3, List.map_cons]
theorem Reps.ofInts {I : Im} : ∀ {ns : List Int}, Reps Γ I (ns.map D.int) (ns.map V.int)
  | [] => by simp [Reps]
  | n :: ns => by rw [List.map_cons, List.map_cons]; exact Reps.cons Rep.ofInt Reps.ofInts

/-! ### the state, a new object -/
theorem Wf.of_ext {H H' : Hp} {I : Im} {T : List (List D)} (w : Wf Γ H I T) (h : ∀ a o, H a = some o → H' a = some o) : Wf Γ H' I T :=
  ⟨fun a o e => h a o (w.gh a o e), w.nd, w.kg, w.len, fun n a ds e1 e2 => let ⟨vs, h1, h2⟩ := w.cells n a ds e1 e2; ⟨vs, h a _ h1, h2⟩⟩
/-- a new list, ours to write -/
theorem Wf.new {H : Hp} {I : Im} {T : List (List D)} (w : Wf Γ H I T) {p : Addr} (hp : H p = none) (o : HO) : Wf Γ (upd H p o) I T :=
  w.of_ext fun a u e => by rw [upd_ne (ne_of_none e hp)]; exact e
theorem Ext.new {H : Hp} {I : Im} {p : Addr} (hp : H p = none) (o : HO) : Ext O0 H I (upd H p o) I :=
  ⟨fun _ _ h => h, fun _ _ h => h, fun a u h _ _ => by rw [upd_ne (ne_of_none h hp)]; exact h, fun a h => by
    by_cases e : a = p
    · subst e; rw [upd_same]; simp
    · rw [upd_ne e]; exact h, fun _ h => .inl h, fun _ h => .inl h, rfl⟩
theorem Wf.gnone {H : Hp} {I : Im} {T : List (List D)} (w : Wf Γ H I T) {p : Addr} (hp : H p = none) : I.G p = none := by
  cases e : I.G p with
  | none => rfl
  | some o => rw [w.gh p o e] at hp; cases hp
theorem Wf.cellIn {H : Hp} {I : Im} {T : List (List D)} (w : Wf Γ H I T) {a : Addr} (h : a ∈ I.κ) : ∃ (n : Nat) (ds : List D) (vs : List V), I.κ[n]? = some a ∧ T[n]? = some ds ∧ H a = some (.lst vs) ∧ Reps Γ I ds vs := by
  obtain ⟨n, hn, e⟩ := List.getElem_of_mem h
  have hn2 : n < T.length := by rw [← w.len]; exact hn
  have e1 : I.κ[n]? = some a := by simp [hn, e]
  have e2 : T[n]? = some T[n] := by simp [hn2]
  obtain ⟨vs, h1, h2⟩ := w.cells n a _ e1 e2
  exact ⟨n, _, vs, e1, e2, h1, h2⟩
theorem Wf.nocell {H : Hp} {I : Im} {T : List (List D)} (w : Wf Γ H I T) {p : Addr} (hp : H p = none) : p ∉ I.κ := fun h => by
  obtain ⟨_, _, _, _, _, h1, _⟩ := w.cellIn h
  rw [hp] at h1; cases h1
/-- a thing of ours becomes immutable -/
theorem Wf.freeze {H : Hp} {I : Im} {T : List (List D)} (w : Wf Γ H I T) {p : Addr} {o : HO} (hp : H p = some o) (hg : I.G p = none) (hk : p ∉ I.κ) : Wf Γ H ⟨upd I.G p o, I.κ, I.me⟩ T := by
  have le : Im.Le I ⟨upd I.G p o, I.κ, I.me⟩ := ⟨fun a u e => by show upd I.G p o a = _; rw [upd_ne (ne_of_none e hg)]; exact e, fun _ _ h => h, rfl⟩
  refine ⟨fun a u e => ?_, w.nd, fun a ha => ?_, w.len, fun n a ds e1 e2 => ?_⟩
  · by_cases q : a = p
    · subst q
      have e2 : upd I.G a o a = some u := e
      rw [upd_same] at e2; cases e2; exact hp
    · exact w.gh a u (by have e2 : upd I.G p o a = some u := e; rw [upd_ne q] at e2; exact e2)
  · show upd I.G p o a = none
    rw [upd_ne (fun q => hk (by rw [← q]; exact ha))]
    exact w.kg a ha
  · obtain ⟨vs, h1, h2⟩ := w.cells n a ds e1 e2
    exact ⟨vs, h1, Reps.mono le h2⟩
theorem Ext.freeze {O : Addr → Prop} {H : Hp} {I : Im} {p : Addr} {o : HO} (hg : I.G p = none) (h : O p) : Ext O H I H ⟨upd I.G p o, I.κ, I.me⟩ :=
  ⟨fun a u e => by show upd I.G p o a = _; rw [upd_ne (ne_of_none e hg)]; exact e, fun _ _ h => h, fun _ _ h _ _ => h, fun _ h => h, fun a q => by
    by_cases e : a = p
    · subst e; exact .inr (.inr h)
    · exact .inl (by have q2 : upd I.G p o a ≠ none := q; rw [upd_ne e] at q2; exact q2), fun _ h => .inl h, rfl⟩
/-- a new immutable thing -/
theorem Ext.newG {H : Hp} {I : Im} {p : Addr} {o : HO} (hp : H p = none) (hg : I.G p = none) : Ext O0 H I (upd H p o) ⟨upd I.G p o, I.κ, I.me⟩ :=
  ⟨fun a u e => by show upd I.G p o a = _; rw [upd_ne (ne_of_none e hg)]; exact e, fun _ _ h => h, fun a u h _ _ => by rw [upd_ne (ne_of_none h hp)]; exact h, fun a h => by
    by_cases e : a = p
    · subst e; rw [upd_same]; simp
    · rw [upd_ne e]; exact h, fun a q => by
    by_cases e : a = p
    · subst e; exact .inr (.inl hp)
    · exact .inl (by have q2 : upd I.G p o a ≠ none := q; rw [upd_ne e] at q2; exact q2), fun _ h => .inl h, rfl⟩
theorem Wf.newG {H : Hp} {I : Im} {T : List (List D)} (w : Wf Γ H I T) {p : Addr} (hp : H p = none) (o : HO) : Wf Γ (upd H p o) ⟨upd I.G p o, I.κ, I.me⟩ T :=
  (w.new hp o).freeze upd_same (w.gnone hp) (w.nocell hp)
end
end Tp
end
section
set_option Elab.async false
set_option linter.all false
set_option maxRecDepth 100000
set_option maxHeartbeats 2000000
/-! TpB: environments, answers, readings by data; the context of the code. -/
namespace Tp
open PySem PySem.Spec PyProof.Rows L2

/-- what a local holds: plain data, or a thing of its own that nobody else knows: a list, a dict, an instance in the making, a zip just made -/
inductive LV where
  | sh (d : D)
  | ow (xs : List D)
  | od (kvs : List (Key × D))
  | oo (c : Nat) (xs : List D)
  | zp (xs ys : List D)
/-- an expression's answer: a value (what is not plain is new), or a local's own list, looked at -/
inductive R where
  | v (lv : LV)
  | bw (xs : List D)
  | bd (kvs : List (Key × D))
abbrev Env := List (Option LV)
abbrev Cs := List (List D)
/-- an exception: its class's name, its attributes -/
structure ExD where
  c : Str
  xs : List D
/-- no answer (not told here); an answer; an exception -/
inductive Ev (α : Type) where
  | no
  | ok (a : α) (T : Cs)
  | ex (e : ExD) (T : Cs)
def Ev.bind {α β : Type} (x : Ev α) (f : α → Cs → Ev β) : Ev β := match x with
  | .no => .no
  | .ok a T => f a T
  | .ex e T => .ex e T
def Ev.opt {α : Type} (o : Option α) (T : Cs) : Ev α := match o with
  | none => .no
  | some a => .ok a T

/-- a zip just made, its five parts tracked each by its own object -/
structure ZpAt (K : PySem.W.Frag) (n : Nat) (G H : Hp) (la lb : Addr) (vs us : List V) (z ti to i1 i2 : Addr) : Prop where
  l1 : SqL K G la vs
  l2 : SqL K G lb us
  ap : ZipApart z ti to i1 i2 la lb
  hz : H z = some (.ext fun h => IsZip h z ti to .none)
  hti : H ti = some (.ext fun h => IsPair h ti (.ref i1) (.ref i2))
  hto : H to = some (.ext fun h => ∃ x y, IsPair h to x y)
  h1 : H i1 = some (.ext fun h => h.IsListIter i1 la 0)
  h2 : H i2 = some (.ext fun h => h.IsListIter i2 lb 0)
  nz : n ≤ z
  nti : n ≤ ti
  nto : n ≤ to
  n1 : n ≤ i1
  n2 : n ≤ i2

section
variable (Γ : Gam) (n : Nat)
/-- as: what it owns -/
def RepL (I : Im) (H : Hp) : LV → V → List Addr → Prop
  | .sh d, v, as => as = [] ∧ Rep Γ I d v
  | .ow xs, v, as => ∃ a vs, as = [a] ∧ v = .ref a ∧ H a = some (.lst vs) ∧ Reps Γ I xs vs
  | .od kvs, v, as => ∃ a us, as = [a] ∧ v = .ref a ∧ H a = some (.dK us) ∧ RepK Γ I kvs us
  | .oo c xs, v, as => ∃ a dx us, as = [a] ∧ v = .ref a ∧ I.me = some a ∧ H a = some (.ins (He.ga Γ.K (Γ.cd c).1) dx us) ∧ us.map (·.1) = (Γ.cd c).2.take xs.length ∧ Reps Γ I xs (us.map (·.2))
  | .zp xs ys, v, as => ∃ z ti to i1 i2 la lb vs us, as = [z, ti, to, i1, i2] ∧ v = .ref z ∧ ZpAt Γ.K n I.G H la lb vs us z ti to i1 i2 ∧ Reps Γ I xs vs ∧ Reps Γ I ys us
/-- the locals: own i is what the i-th one owns -/
structure ER (σ : L2.St) (ρ : Env) (H : Hp) (I : Im) (own : Nat → List Addr) : Prop where
  len : σ.length = ρ.length
  at_ : ∀ (i : Nat) lv, ρ[i]? = some (some lv) → ∃ v, σ[i]? = some (some v) ∧ RepL Γ n I H lv v (own i)
  dead : ∀ (i : Nat), (∀ lv, ρ[i]? ≠ some (some lv)) → own i = []
  free : ∀ (i : Nat) a, a ∈ own i → I.G a = none ∧ a ∉ I.κ ∧ H a ≠ none
  disj : ∀ (i j : Nat) a, a ∈ own i → a ∈ own j → i = j
abbrev Ow (own : Nat → List Addr) : Addr → Prop := fun a => ∃ i, a ∈ own i
/-- an answer: Hs the heap ahead -/
def RepR (own : Nat → List Addr) (Hs H : Hp) (I : Im) : R → V → Prop
  | .v lv, v => ∃ as, RepL Γ n I H lv v as ∧ ∀ a, a ∈ as → I.G a = none ∧ a ∉ I.κ ∧ H a ≠ none ∧ Hs a = none
  | .bw xs, v => ∃ a vs, v = .ref a ∧ H a = some (.lst vs) ∧ I.G a = none ∧ a ∉ I.κ ∧ Ow own a ∧ Reps Γ I xs vs
  | .bd kvs, v => ∃ a us, v = .ref a ∧ H a = some (.dK us) ∧ I.G a = none ∧ a ∉ I.κ ∧ Ow own a ∧ RepK Γ I kvs us
/-- an exception that has left: its class, its own dict -/
def RepX (I : Im) (e : ExD) (cls : Value) (d : Option Addr) : Prop :=
  cls = .ref (He.ga Γ.K e.c) ∧ ((e.xs = [] ∧ d = none) ∨ ∃ a us, d = some a ∧ I.G a = some (.xd us) ∧ us.map (·.1) = Γ.xf e.c ∧ Reps Γ I e.xs (us.map (·.2)))
end

section
variable {Γ : Gam} {n : Nat}
theorem RepL.ext {I I' : Im} {H H' : Hp} (le : Im.Le I I') : ∀ {lv : LV} {v : V} {as : List Addr}, RepL Γ n I H lv v as → (∀ a o, a ∈ as → H a = some o → H' a = some o) → RepL Γ n I' H' lv v as
  | .sh d, _, _, h, _ => ⟨h.1, h.2.mono le⟩
  | .ow _, _, _, h, k => by
    obtain ⟨a, vs, rfl, h2, h3, h4⟩ := h
    exact ⟨a, vs, rfl, h2, k a _ (by simp) h3, h4.mono le⟩
  | .od _, _, _, h, k => by
    obtain ⟨a, vs, rfl, h2, h3, h4⟩ := h
    exact ⟨a, vs, rfl, h2, k a _ (by simp) h3, h4.mono le⟩
  | .oo _ _, _, _, h, k => by
    obtain ⟨a, dx, vs, rfl, h2, h0, h3, h4, h5⟩ := h
    exact ⟨a, dx, vs, rfl, h2, le.mm.trans h0, k a _ (by simp) h3, h4, h5.mono le⟩
  | .zp _ _, _, _, h, k => by
    obtain ⟨z, ti, to, i1, i2, la, lb, vs, us, rfl, h2, h3, h4, h5⟩ := h
    exact ⟨z, ti, to, i1, i2, la, lb, vs, us, rfl, h2, ⟨SqL.ext le.gg h3.l1, SqL.ext le.gg h3.l2, h3.ap, k _ _ (by simp) h3.hz, k _ _ (by simp) h3.hti, k _ _ (by simp) h3.hto, k _ _ (by simp) h3.h1, k _ _ (by simp) h3.h2, h3.nz, h3.nti, h3.nto, h3.n1, h3.n2⟩, h4.mono le, h5.mono le⟩
/-- what is kept apart stays apart -/
theorem Ext.apart {O : Addr → Prop} {H H' : Hp} {I I' : Im} (e : Ext O H I H' I') {a : Addr} (h1 : I.G a = none) (h2 : a ∉ I.κ) (h3 : H a ≠ none) (no : ¬ O a) : I'.G a = none ∧ a ∉ I'.κ ∧ H' a ≠ none := by
  refine ⟨?_, fun q => ?_, e.th a h3⟩
  · cases q : I'.G a with
    | none => rfl
    | some o =>
      rcases e.gn a (by rw [q]; simp) with r | r | r
      · exact absurd h1 r
      · exact absurd r h3
      · exact absurd r no
  · rcases e.kn a q with r | r
    · exact h2 r
    · exact h3 r
theorem ER.ext {σ : L2.St} {ρ : Env} {H H' : Hp} {I I' : Im} {own : Nat → List Addr} (r : ER Γ n σ ρ H I own) (e : Ext O0 H I H' I') : ER Γ n σ ρ H' I' own :=
  ⟨r.len, fun i lv h => let ⟨v, h1, h2⟩ := r.at_ i lv h; ⟨v, h1, h2.ext e.le fun a o ha q => e.fr a o q (r.free i a ha).2.1 fun z => z⟩, r.dead, fun i a ha =>
    let ⟨h1, h2, h3⟩ := r.free i a ha
    e.apart h1 h2 h3 fun z => z, r.disj⟩
theorem RepR.ext {own : Nat → List Addr} {Hs H H' : Hp} {I I' : Im} (e : Ext O0 H I H' I') : ∀ {r : R} {v : V}, RepR Γ n own Hs H I r v → RepR Γ n own Hs H' I' r v
  | .v lv, _, h => by
    obtain ⟨as, h1, h2⟩ := h
    exact ⟨as, h1.ext e.le fun a o ha q => e.fr a o q (h2 a ha).2.1 fun z => z, fun a ha =>
      let ⟨q1, q2, q3, q4⟩ := h2 a ha
      let ⟨p1, p2, p3⟩ := e.apart q1 q2 q3 fun z => z
      ⟨p1, p2, p3, q4⟩⟩
  | .bw xs, _, h => by
    obtain ⟨a, vs, h1, h2, h3, h4, h5, h6⟩ := h
    obtain ⟨p1, p2, _⟩ := e.apart h3 h4 (by rw [h2]; simp) fun z => z
    exact ⟨a, vs, h1, e.fr a _ h2 h4 fun z => z, p1, p2, h5, h6.mono e.le⟩
  | .bd xs, _, h => by
    obtain ⟨a, vs, h1, h2, h3, h4, h5, h6⟩ := h
    obtain ⟨p1, p2, _⟩ := e.apart h3 h4 (by rw [h2]; simp) fun z => z
    exact ⟨a, vs, h1, e.fr a _ h2 h4 fun z => z, p1, p2, h5, h6.mono e.le⟩
/-- seen from further ahead -/
theorem RepR.back {own : Nat → List Addr} {Hs H0 H : Hp} {I : Im} (h : ∀ a, Hs a ≠ none → H0 a ≠ none) : ∀ {r : R} {v : V}, RepR Γ n own H0 H I r v → RepR Γ n own Hs H I r v
  | .v lv, _, q => by
    obtain ⟨as, h1, h2⟩ := q
    refine ⟨as, h1, fun a ha => ?_⟩
    obtain ⟨q1, q2, q3, q4⟩ := h2 a ha
    refine ⟨q1, q2, q3, ?_⟩
    cases e : Hs a with
    | none => rfl
    | some o => exact absurd q4 (h a (by rw [e]; simp))
  | .bw _, _, q => q
  | .bd _, _, q => q

/-! ### readings by data -/
variable (Γ n)
/-- W: the wish about exceptions -/
def XW (W : WX) (σ : L2.St) (H : Hp) (I : Im) (e : ExD) (T : Cs) : Prop :=
  ∀ cls d H' I', Ext O0 H I H' I' → Wf Γ H' I' T → RepX Γ I' e cls d → W cls d σ H'
/-- what is wanted behind a piece of code that began at H, I: rel: how an answer lies -/
def Post {α β : Type} (rel : Hp → Hp → Im → α → β → Prop) (W : WX) (σ : L2.St) (H : Hp) (I : Im) (res : Ev α) (Q : β → Hp → Prop) : Prop := match res with
  | .no => False
  | .ok r T' => ∀ v H' I', Ext O0 H I H' I' → Wf Γ H' I' T' → rel H H' I' r v → Q v H'
  | .ex e T' => XW Γ W σ H I e T'
/-- several answers -/
def RepRs (own : Nat → List Addr) (Hs H : Hp) (I : Im) : List R → List V → Prop
  | [], vs => vs = []
  | r :: rs, vs => ∃ v us, vs = v :: us ∧ RepR Γ n own Hs H I r v ∧ RepRs own Hs H I rs us
def relB (_ _ : Hp) (_ : Im) (a b : Bool) : Prop := b = a
def tE (W : WX) (ev : Env → Cs → Ev R) : TE := fun σ H Q => ∃ I ρ T own, Wf Γ H I T ∧ ER Γ n σ ρ H I own ∧ Post Γ (RepR Γ n own) W σ H I (ev ρ T) Q
def tT (W : WX) (ev : Env → Cs → Ev Bool) : L2.TT := fun σ H Q => ∃ I ρ T own, Wf Γ H I T ∧ ER Γ n σ ρ H I own ∧ Post Γ relB W σ H I (ev ρ T) Q
def tA (W : WX) (ev : Env → Cs → Ev (List R)) : TA := fun σ H Q => ∃ I ρ T own, Wf Γ H I T ∧ ER Γ n σ ρ H I own ∧ Post Γ (RepRs Γ n own) W σ H I (ev ρ T) Q
/-- what a statement comes to -/
inductive Fl where
  | nx (ρ : Env)
  | rt (r : LV)
  | bk (ρ : Env)
  | ct (ρ : Env)
/-- behind a statement: the slots, the heap, what is immutable; O: what was owned ahead, Hs the heap ahead -/
structure Aft (O : Addr → Prop) (H : Hp) (I : Im) (T : Cs) (ρ : Env) (σ : L2.St) (H' : Hp) (I' : Im) (own : Nat → List Addr) : Prop where
  ext : Ext O H I H' I'
  wf : Wf Γ H' I' T
  er : ER Γ n σ ρ H' I' own
  ow : ∀ a, Ow own a → O a ∨ H a = none
def FlP (D' : Ends) (O : Addr → Prop) (H : Hp) (I : Im) (T : Cs) : Fl → Prop
  | .nx ρ => ∀ σ' H' I' own', Aft Γ n O H I T ρ σ' H' I' own' → D'.nx σ' H'
  | .rt lv => ∀ v H' I' as, Ext O H I H' I' → Wf Γ H' I' T → RepL Γ n I' H' lv v as → (∀ a, a ∈ as → I'.G a = none ∧ a ∉ I'.κ ∧ H' a ≠ none ∧ (O a ∨ H a = none)) → D'.rt v H'
  | .bk ρ => ∀ σ' H' I' own', Aft Γ n O H I T ρ σ' H' I' own' → D'.bk σ' H'
  | .ct ρ => ∀ σ' H' I' own', Aft Γ n O H I T ρ σ' H' I' own' → D'.ct σ' H'
/-- an exception out of a statement: the slots as they may be by then -/
def XS (W : WX) (O : Addr → Prop) (H : Hp) (I : Im) (e : ExD) (T : Cs) : Prop :=
  ∀ cls d σ' H' I', Ext O H I H' I' → Wf Γ H' I' T → RepX Γ I' e cls d → W cls d σ' H'
def tS (W : WX) (ev : Env → Cs → Ev Fl) : TS := fun D' σ H => ∃ I ρ T own, Wf Γ H I T ∧ ER Γ n σ ρ H I own ∧ match ev ρ T with
  | .no => False
  | .ok f T' => FlP Γ n D' (Ow own) H I T' f
  | .ex e T' => XS Γ W (Ow own) H I e T'
end

section
variable {Γ : Gam} {n : Nat} {W : WX} {σ : L2.St} {H H1 : Hp} {I I1 : Im}
theorem RepRs.ext {own : Nat → List Addr} {Hs H H' : Hp} {I I' : Im} (e : Ext O0 H I H' I') : ∀ {rs : List R} {vs : List V}, RepRs Γ n own Hs H I rs vs → RepRs Γ n own Hs H' I' rs vs
  | [], _, h => h
  | _ :: _, _, ⟨v, us, h1, h2, h3⟩ => ⟨v, us, h1, h2.ext e, h3.ext e⟩
theorem RepRs.back {own : Nat → List Addr} {Hs H0 H : Hp} {I : Im} (h : ∀ a, Hs a ≠ none → H0 a ≠ none) : ∀ {rs : List R} {vs : List V}, RepRs Γ n own H0 H I rs vs → RepRs Γ n own Hs H I rs vs
  | [], _, q => q
  | _ :: _, _, ⟨v, us, h1, h2, h3⟩ => ⟨v, us, h1, h2.back h, h3.back h⟩
/-- seen from further ahead -/
structure Backs {α β : Type} (rel : Hp → Hp → Im → α → β → Prop) : Prop where
  back : ∀ {Hs H0 H : Hp} {I : Im} {a : α} {b : β}, (∀ a, Hs a ≠ none → H0 a ≠ none) → rel H0 H I a b → rel Hs H I a b
theorem backR {own : Nat → List Addr} : Backs (RepR Γ n own) := ⟨fun h q => q.back h⟩
theorem backRs {own : Nat → List Addr} : Backs (RepRs Γ n own) := ⟨fun h q => q.back h⟩
theorem backB : Backs relB := ⟨fun _ q => q⟩
theorem XW.from {e : ExD} {T : Cs} (x : Ext O0 H I H1 I1) (h : XW Γ W σ H I e T) : XW Γ W σ H1 I1 e T := fun cls d H' I' a b c => h cls d H' I' (x.tr0 a) b c
theorem Post.from {α β : Type} {rel : Hp → Hp → Im → α → β → Prop} (k : Backs rel) {res : Ev α} {Q : β → Hp → Prop} (x : Ext O0 H I H1 I1) (h : Post Γ rel W σ H I res Q) : Post Γ rel W σ H1 I1 res Q := by
  cases res with
  | no => exact h
  | ok r T => exact fun v H' I' a b c => h v H' I' (x.tr0 a) b (k.back x.th c)
  | ex e T => exact XW.from x h
/-- one piece behind another -/
theorem Post.bind {α β γ δ : Type} {rel : Hp → Hp → Im → α → β → Prop} {rel' : Hp → Hp → Im → γ → δ → Prop} (k : Backs rel') {x : Ev α} {f : α → Cs → Ev γ} {Q : δ → Hp → Prop} (h : Post Γ rel' W σ H I (x.bind f) Q) :
    Post Γ rel W σ H I x fun v H1 => ∃ r T1 I1, x = .ok r T1 ∧ Ext O0 H I H1 I1 ∧ Wf Γ H1 I1 T1 ∧ rel H H1 I1 r v ∧ Post Γ rel' W σ H1 I1 (f r T1) Q := by
  cases x with
  | no => exact h
  | ok r T => exact fun v H' I' a b c => ⟨r, T, I', rfl, a, b, c, Post.from k a h⟩
  | ex e T => exact h
/-- one piece behind another, the end wanted from where it began -/
theorem Post.step {α β γ δ : Type} {rel : Hp → Hp → Im → α → β → Prop} {rel' : Hp → Hp → Im → γ → δ → Prop} {x : Ev α} {f : α → Cs → Ev γ} {Q : δ → Hp → Prop} (h : Post Γ rel' W σ H I (x.bind f) Q) (a : Ext O0 H I H1 I1) :
    Post Γ rel W σ H1 I1 x fun v H2 => ∃ r T2 I2, x = .ok r T2 ∧ Ext O0 H1 I1 H2 I2 ∧ Wf Γ H2 I2 T2 ∧ rel H1 H2 I2 r v ∧ Post Γ rel' W σ H I (f r T2) Q := by
  cases x with
  | no => exact h
  | ok r T => exact fun v H' I' a b c => ⟨r, T, I', rfl, a, b, c, h⟩
  | ex e T => exact XW.from a h
theorem Post.imp {α β : Type} {rel : Hp → Hp → Im → α → β → Prop} {res : Ev α} {Q Q' : β → Hp → Prop} (h : Post Γ rel W σ H I res Q) (m : ∀ v H', Q v H' → Q' v H') : Post Γ rel W σ H I res Q' := by
  cases res with
  | no => exact h
  | ok r T => exact fun v H' I' a b c => m _ _ (h v H' I' a b c)
  | ex e T => exact h
end

/-! ### the code's context -/
/-- the names: N by slots; nm of the scope that runs; those that may be stored -/
structure Sc where
  N : List Str
  nm : List (Str × NameKind)
  st : List (Str × NameKind)
structure Good (Γ : Gam) (k : Nat) (W : WX) (sc : Sc) (X : Cx) : Prop where
  prog : X.prog = Γ.P
  w : X.w = Γ.w
  K : X.K = Γ.K
  mg : X.mg = Γ.mg
  base : X.base = Γ.base
  N : X.N = sc.N
  nd : X.N.Nodup
  calm : X.calm = true
  room : Room k X.A
  gd : X.A.guards = some []
  nm : X.env.scope.names = sc.nm
  fk : X.env.scope.kind = .function
  st : ∀ x, (sc.st.lookup x = some .local ∨ sc.st.lookup x = some .cell) → X.fn x = true ∨ X.env.scope.names.lookup x = some .local
  tk : Takes X W
  po : PassesOwn (model X.prog X.w) X.A X.env X.xe
theorem PE.mono {X : Cx} {e : Expr} {t t' : TE} (h : PE X e t) (m : ∀ σ H Q, t' σ H Q → t σ H Q) : PE X e t' := ⟨fun pins s σ H Q I q => h.run pins s σ H Q I (m σ H Q q)⟩
theorem PT.mono {X : Cx} {e : Expr} {t t' : L2.TT} (h : PT X e t) (m : ∀ σ H Q, t' σ H Q → t σ H Q) : PT X e t' := ⟨fun pins s σ H Q I q => h.run pins s σ H Q I (m σ H Q q)⟩
theorem PW.mono {X : Cx} {e : Expr} {t t' : L2.TT} (h : PW X e t) (m : ∀ σ H Q, t' σ H Q → t σ H Q) : PW X e t' := ⟨fun wh pins s σ H Q I q => h.run wh pins s σ H Q I (m σ H Q q)⟩
theorem PA.mono {X : Cx} {e : List Expr} {t t' : TA} (h : PA X e t) (m : ∀ σ H Q, t' σ H Q → t σ H Q) : PA X e t' := ⟨fun pos pins s σ H Q I q => h.run pos pins s σ H Q I (m σ H Q q)⟩
theorem PS.mono {X : Cx} {e : Stmt} {t t' : TS} (h : PS X e t) (m : ∀ D σ H, t' D σ H → t D σ H) : PS X e t' := ⟨fun pins s σ H D I q => h.run pins s σ H D I (m D σ H q)⟩
theorem PSs.mono {X : Cx} {e : List Stmt} {t t' : TS} (h : PSs X e t) (m : ∀ D σ H, t' D σ H → t D σ H) : PSs X e t' := ⟨fun pins s σ H D I q => h.run pins s σ H D I (m D σ H q)⟩
end Tp
end
section
set_option Elab.async false
set_option linter.all false
set_option maxRecDepth 100000
set_option maxHeartbeats 2000000
/-! TpC: pieces of code: expressions, tests, argument lists; operations on values. -/
namespace Tp
open PySem PySem.Spec PyProof.Rows L2

/-- an expression: what it answers, which text it is, what it leans on, that the text does so -/
structure CE where
  ev : Env → Cs → Ev R
  chk : Nat → Sc → Expr → Bool
  need : Gam → Prop
  z : Bool
  ok : ∀ {Γ : Gam} {k : Nat} {W : WX} {sc : Sc} {X : Cx} {e : Expr} {n : Nat}, Good Γ k W sc X → need Γ → chk k sc e = true → (z = true → n = X.s_0.heap.objs.size) → PE X e (tE Γ n W ev)
/-- a test -/
structure CT where
  ev : Env → Cs → Ev Bool
  chk : Nat → Sc → Expr → Bool
  need : Gam → Prop
  z : Bool
  ok : ∀ {Γ : Gam} {k : Nat} {W : WX} {sc : Sc} {X : Cx} {e : Expr} {n : Nat}, Good Γ k W sc X → need Γ → chk k sc e = true → (z = true → n = X.s_0.heap.objs.size) → PT X e (tT Γ n W ev)
/-- arguments -/
structure CA where
  ev : Env → Cs → Ev (List R)
  chk : Nat → Sc → List Expr → Bool
  need : Gam → Prop
  z : Bool
  ok : ∀ {Γ : Gam} {k : Nat} {W : WX} {sc : Sc} {X : Cx} {e : List Expr} {n : Nat}, Good Γ k W sc X → need Γ → chk k sc e = true → (z = true → n = X.s_0.heap.objs.size) → PA X e (tA Γ n W ev)
  star : ∀ {k : Nat} {sc : Sc} {e : List Expr} {env : PySem.Env}, chk k sc e = true → starEach e env = e.map fun x => (false, eval x env)

theorem Post.opt {Γ : Gam} {W : WX} {σ : L2.St} {H : Hp} {I : Im} {α β : Type} {rel : Hp → Hp → Im → α → β → Prop} {o : Option α} {T : Cs} {Q : β → Hp → Prop} (h : Post Γ rel W σ H I (Ev.opt o T) Q) :
    ∃ r, o = some r ∧ ∀ v H' I', Ext O0 H I H' I' → Wf Γ H' I' T → rel H H' I' r v → Q v H' := by
  cases o with
  | none => exact h.elim
  | some r => exact ⟨r, rfl, h⟩
theorem b2 {a b : Bool} (h : (a && b) = true) : a = true ∧ b = true := Bool.and_eq_true_iff.mp h
theorem or1 {a b : Bool} {p : Prop} (h : (a || b) = true → p) : (a = true → p) ∧ (b = true → p) := ⟨fun q => h (by rw [q]; rfl), fun q => h (by rw [q]; simp)⟩

/-! ### names -/
def okName (x : Str) : Bool := !(x == ("__debug__" : Str)) && !(x == ("__classdict__" : Str)) && !(x == ("__name__" : Str))
def isVis (nm : List (Str × NameKind)) (x : Str) : Bool := match nm.lookup x with
  | some .local => true
  | some .cell => true
  | some .free => true
  | _ => false
def isGl (nm : List (Str × NameKind)) (x : Str) : Bool := match nm.lookup x with
  | some .globalImplicit => true
  | _ => false
def slotIs (N : List Str) (i : Nat) (x : Str) : Bool := match N[i]? with
  | some y => decide (y = x)
  | none => false
theorem okName_d {x : Str} (h : okName x = true) : (x == ("__debug__" : Str)) = false ∧ (x == ("__classdict__" : Str)) = false ∧ x ≠ "__name__" := by
  unfold okName at h
  obtain ⟨h1, h3⟩ := b2 h
  obtain ⟨h1, h2⟩ := b2 h1
  refine ⟨by simpa using h1, by simpa using h2, ?_⟩
  intro q
  rw [q] at h3
  simp at h3
theorem isVis_ok {nm : List (Str × NameKind)} {x : Str} {sc : Scope} (e : sc.names = nm) (h : isVis nm x = true) : Vis sc x := by
  unfold isVis at h
  unfold Vis
  rw [e]
  split at h <;> first | (rename_i q; rw [q]; simp) | cases h
theorem isGl_ok {nm : List (Str × NameKind)} {x : Str} {X : Cx} (e : X.env.scope.names = nm) (h : isGl nm x = true) : Gl X x := by
  unfold isGl at h
  show X.env.scope.names.lookup x = _
  rw [e]
  split at h
  · assumption
  · cases h
theorem slotIs_ok {N : List Str} {i : Nat} {x : Str} (h : slotIs N i x = true) : N[i]? = some x := by
  unfold slotIs at h
  split at h
  · rename_i y q
    rw [q, of_decide_eq_true h]
  · cases h
/-- a local's value -/
def rdVar (lv : Option (Option LV)) : Option R := match lv with
  | some (some (.sh d)) => some (.v (.sh d))
  | some (some (.ow xs)) => some (.bw xs)
  | some (some (.od kvs)) => some (.bd kvs)
  | _ => none
def cVar (i : Nat) : CE where
  ev := fun ρ T => Ev.opt (rdVar ρ[i]?) T
  chk := fun _ sc e => match e with
    | .Name x _ => okName x && slotIs sc.N i x && isVis sc.nm x
    | _ => false
  need := fun _ => True
  z := false
  ok := by
    intro Γ k W sc X e n g _ h _
    split at h
    · rename_i x pos
      obtain ⟨h1, h3⟩ := b2 h
      obtain ⟨h1, h2⟩ := b2 h1
      obtain ⟨d1, d2, _⟩ := okName_d h1
      refine PE.mono (pe_var (i := i) (by rw [g.N]; exact slotIs_ok h2) (isVis_ok g.nm h3) d1 d2) fun σ H Q q => ?_
      obtain ⟨I, ρ, T, own, w, er, p⟩ := q
      obtain ⟨r, e0, p2⟩ := Post.opt (show Post Γ (RepR Γ n own) W σ H I (Ev.opt (rdVar ρ[i]?) T) Q from p)
      unfold rdVar at e0
      split at e0
      · rename_i d e1
        cases e0
        obtain ⟨v, e2, e3⟩ := er.at_ i _ e1
        exact ⟨v, e2, p2 v H I Ext.refl w ⟨[], ⟨rfl, e3.2⟩, by simp⟩⟩
      · rename_i xs e1
        cases e0
        obtain ⟨v, e2, a, vs, e3, e4, e5, e6⟩ := er.at_ i _ e1
        have ha : a ∈ own i := by rw [e3]; simp
        obtain ⟨f1, f2, f3⟩ := er.free i a ha
        exact ⟨v, e2, p2 v H I Ext.refl w ⟨a, vs, e4, e5, f1, f2, ⟨i, ha⟩, e6⟩⟩
      · rename_i xs e1
        cases e0
        obtain ⟨v, e2, a, vs, e3, e4, e5, e6⟩ := er.at_ i _ e1
        have ha : a ∈ own i := by rw [e3]; simp
        obtain ⟨f1, f2, f3⟩ := er.free i a ha
        exact ⟨v, e2, p2 v H I Ext.refl w ⟨a, vs, e4, e5, f1, f2, ⟨i, ha⟩, e6⟩⟩
      · cases e0
    · cases h

/-! ### constants -/
theorem RepR.sh {Γ : Gam} {n : Nat} {own : Nat → List Addr} {Hs H : Hp} {I : Im} {d : D} {v : V} (h : Rep Γ I d v) : RepR Γ n own Hs H I (.v (.sh d)) v := ⟨[], ⟨rfl, h⟩, by simp⟩
theorem RepR.unsh {Γ : Gam} {n : Nat} {own : Nat → List Addr} {Hs H : Hp} {I : Im} {d : D} {v : V} (h : RepR Γ n own Hs H I (.v (.sh d)) v) : Rep Γ I d v := by
  obtain ⟨as, h, _⟩ := h
  exact h.2
theorem tE_const {Γ : Gam} {n : Nat} {W : WX} {d : D} {v : V} (h : ∀ I, Rep Γ I d v) : ∀ σ H Q, tE Γ n W (fun _ T => .ok (.v (.sh d)) T) σ H Q → tC v σ H Q := fun σ H Q q => by
  obtain ⟨I, ρ, T, own, w, er, p⟩ := q
  exact p v H I Ext.refl w (.sh (h I))
def cInt (i : Int) : CE where
  ev := fun _ T => .ok (.v (.sh (.int i))) T
  chk := fun _ _ e => match e with
    | .Constant (.int j) _ _ => decide (i = j)
    | _ => false
  need := fun _ => True
  z := false
  ok := by
    intro Γ k W sc X e n g _ h _
    split at h
    · rename_i j _ _
      rw [of_decide_eq_true h]
      exact PE.mono pe_int (tE_const fun _ => .ofInt)
    · cases h
def cBl (i : Bool) : CE where
  ev := fun _ T => .ok (.v (.sh (.bl i))) T
  chk := fun _ _ e => match e with
    | .Constant (.bool j) _ _ => i == j
    | _ => false
  need := fun _ => True
  z := false
  ok := by
    intro Γ k W sc X e n g _ h _
    split at h
    · rename_i j _ _
      rw [eq_of_beq h]
      exact PE.mono pe_bl (tE_const fun _ => .ofBl)
    · cases h
def cNon : CE where
  ev := fun _ T => .ok (.v (.sh .non)) T
  chk := fun _ _ e => match e with
    | .Constant .none _ _ => true
    | _ => false
  need := fun _ => True
  z := false
  ok := by
    intro Γ k W sc X e n g _ h _
    split at h
    · exact PE.mono pe_non (tE_const fun _ => .ofNon)
    · cases h
def cStr (x : Str) : CE where
  ev := fun _ T => .ok (.v (.sh (.str x))) T
  chk := fun _ _ e => match e with
    | .Constant (.str j) _ _ => decide (x = j)
    | _ => false
  need := fun _ => True
  z := false
  ok := by
    intro Γ k W sc X e n g _ h _
    split at h
    · rename_i j _ _
      rw [of_decide_eq_true h]
      exact PE.mono pe_str (tE_const fun _ => .ofStr)
    · cases h

/-! ### operations on values -/
/-- what an operation that answers f asks: rdN -/
def rdN (Γ : Gam) (n : Nat) (f : List R → Option R) : List V → Hp → VK → Prop := fun vs H Q => ∃ I T own Hs rs r, Wf Γ H I T ∧ RepRs Γ n own Hs H I rs vs ∧ f rs = some r ∧
  ∀ v H' I', Ext O0 H I H' I' → Wf Γ H' I' T → RepR Γ n own H H' I' r v → Q v H'
theorem OpR.mono {X : Cx} {f : Value → Value → Sem Value} {r r' : R2} (h : OpR X f r) (m : ∀ x y H Q, r' x y H Q → r x y H Q) : OpR X f r' := fun pins s σ H x y v u Q I a b q => h pins s σ H x y v u Q I a b (m _ _ _ _ q)
theorem UnR.mono {X : Cx} {f : Value → Sem Value} {r r' : V → Hp → VK → Prop} (h : UnR X f r) (m : ∀ x H Q, r' x H Q → r x H Q) : UnR X f r' := fun pins s σ H x v Q I a q => h pins s σ H x v Q I a (m _ _ _ q)
theorem CallR.mono {X : Cx} {f : Value} {r r' : List V → Hp → VK → Prop} (h : CallR X f r) (m : ∀ x H Q, r' x H Q → r x H Q) : CallR X f r' := fun pins s σ H x v Q I a q => h pins s σ H x v Q I a (m _ _ _ q)
theorem IxR.mono {X : Cx} {r r' : R2} (h : IxR X r) (m : ∀ x y H Q, r' x y H Q → r x y H Q) : IxR X r' := by
  intro va sl pins s σ H x y v u Q I a b q hs
  exact h va sl pins s σ H x y v u Q I a b (m _ _ _ _ q) hs
theorem RepRs.two {Γ : Gam} {n : Nat} {own : Nat → List Addr} {Hs H : Hp} {I : Im} {a b : R} {x y : V} (h : RepR Γ n own Hs H I a x) (q : RepR Γ n own Hs H I b y) : RepRs Γ n own Hs H I [a, b] [x, y] := ⟨x, [y], rfl, h, y, [], rfl, q, rfl⟩
theorem RepRs.one {Γ : Gam} {n : Nat} {own : Nat → List Addr} {Hs H : Hp} {I : Im} {a : R} {x : V} (h : RepR Γ n own Hs H I a x) : RepRs Γ n own Hs H I [a] [x] := ⟨x, [], rfl, h, rfl⟩
theorem RepRs.length {Γ : Gam} {n : Nat} {own : Nat → List Addr} {Hs H : Hp} {I : Im} : ∀ {rs : List R} {vs : List V}, RepRs Γ n own Hs H I rs vs → vs.length = rs.length
  | [], _, h => by rw [h]; rfl
  | _ :: _, _, ⟨v, us, h1, _, h3⟩ => by rw [h1, List.length_cons, List.length_cons, h3.length]
abbrev rd2 (Γ : Gam) (n : Nat) (f : List R → Option R) : R2 := fun x y H Q => rdN Γ n f [x, y] H Q
abbrev rd1 (Γ : Gam) (n : Nat) (f : List R → Option R) : V → Hp → VK → Prop := fun x H Q => rdN Γ n f [x] H Q
/-- an operation of two values -/
structure Op2 where
  op : Operator
  f : List R → Option R
  snd : ∀ {Γ : Gam} {k : Nat} {W : WX} {sc : Sc} {X : Cx} {n : Nat}, Good Γ k W sc X → OpR X (binaryOp op) (rd2 Γ n f)
structure Cp2 where
  op : CmpOp
  f : List R → Option R
  snd : ∀ {Γ : Gam} {k : Nat} {W : WX} {sc : Sc} {X : Cx} {n : Nat}, Good Γ k W sc X → OpR X (compareOp op) (rd2 Γ n f)
structure Op1 where
  op : UnaryOp
  f : List R → Option R
  snd : ∀ {Γ : Gam} {k : Nat} {W : WX} {sc : Sc} {X : Cx} {n : Nat}, Good Γ k W sc X → UnR X (unaryOp op) (rd1 Γ n f)
/-- a subscript -/
structure Ix2 where
  f : List R → Option R
  snd : ∀ {Γ : Gam} {k : Nat} {W : WX} {sc : Sc} {X : Cx} {n : Nat}, Good Γ k W sc X → IxR X (rd2 Γ n f)

/-- two values reckoned one behind the other, then an operation on both -/
def ev2 (a b : Env → Cs → Ev R) (f : List R → Option R) : Env → Cs → Ev R := fun ρ T => (a ρ T).bind fun x T1 => (b ρ T1).bind fun y T2 => Ev.opt (f [x, y]) T2
theorem tE_two {Γ : Gam} {n : Nat} {W : WX} {a b : Env → Cs → Ev R} {f : List R → Option R} : ∀ σ H Q, tE Γ n W (ev2 a b f) σ H Q → tOp (rd2 Γ n f) (tE Γ n W a) (tE Γ n W b) σ H Q := fun σ H Q q => by
  obtain ⟨I, ρ, T, own, w, er, p⟩ := q
  refine ⟨I, ρ, T, own, w, er, (Post.bind (rel := RepR Γ n own) backR p).imp fun x H1 q1 => ?_⟩
  obtain ⟨r, T1, I1, _, x1, w1, r1, p1⟩ := q1
  refine ⟨I1, ρ, T1, own, w1, er.ext x1, (Post.bind (rel := RepR Γ n own) backR p1).imp fun y H2 q2 => ?_⟩
  obtain ⟨r2, T2, I2, _, x2, w2, r2', p2⟩ := q2
  obtain ⟨r3, e3, p3⟩ := Post.opt p2
  exact ⟨I2, T2, own, H, [r, r2], r3, w2, .two (r1.ext x2) (r2'.back x1.th), e3, p3⟩
def cBin (o : Op2) (a b : CE) : CE where
  ev := ev2 a.ev b.ev o.f
  chk := fun k sc e => match e with
    | .BinOp x op y _ => (op == o.op) && (a.chk k sc x && b.chk k sc y)
    | _ => false
  need := fun Γ => a.need Γ ∧ b.need Γ
  z := a.z || b.z
  ok := by
    intro Γ k W sc X e n g nd h hz
    split at h
    · obtain ⟨h1, h⟩ := b2 h
      obtain ⟨h2, h3⟩ := b2 h
      rw [eq_of_beq h1]
      exact PE.mono (pe_op (o.snd g) (a.ok g nd.1 h2 (or1 hz).1) (b.ok g nd.2 h3 (or1 hz).2)) tE_two
    · cases h
def notSet : Expr → Bool
  | .Set .. => false
  | _ => true
theorem notSet_ok {e : Expr} (h : notSet e = true) (op : CmpOp) : behindInMarks op e = false := by
  cases e <;> first | rfl | cases h
/-- a comparison as a value -/
def cCmp (o : Cp2) (a b : CE) : CE where
  ev := ev2 a.ev b.ev o.f
  chk := fun k sc e => match e with
    | .Compare x [op] [y] _ => (op == o.op) && (notSet y && (a.chk k sc x && b.chk k sc y))
    | _ => false
  need := fun Γ => a.need Γ ∧ b.need Γ
  z := a.z || b.z
  ok := by
    intro Γ k W sc X e n g nd h hz
    split at h
    · obtain ⟨h1, h⟩ := b2 h
      obtain ⟨h0, h⟩ := b2 h
      obtain ⟨h2, h3⟩ := b2 h
      rw [eq_of_beq h1]
      exact PE.mono (pe_cmpR (o.snd g) (a.ok g nd.1 h2 (or1 hz).1) (b.ok g nd.2 h3 (or1 hz).2) (notSet_ok h0 _)) tE_two
    · cases h
/-- a bool out of an answer -/
def rBl (r : R) : Option Bool := match r with
  | .v (.sh (.bl b)) => some b
  | _ => none
theorem rBl_ok {r : R} {b : Bool} (h : rBl r = some b) : r = .v (.sh (.bl b)) := by
  unfold rBl at h
  split at h
  · cases h; rfl
  · cases h
def evB (a : Env → Cs → Ev R) : Env → Cs → Ev Bool := fun ρ T => (a ρ T).bind fun x T1 => Ev.opt (rBl x) T1
/-- a value that is a bool, as a test -/
theorem tT_val {Γ : Gam} {n : Nat} {W : WX} {a : Env → Cs → Ev R} : ∀ σ H Q, tT Γ n W (evB a) σ H Q → tE Γ n W a σ H (fun x H1 => ∃ k, x = .bl k ∧ Q k H1) := fun σ H Q q => by
  obtain ⟨I, ρ, T, own, w, er, p⟩ := q
  refine ⟨I, ρ, T, own, w, er, (Post.bind (rel := RepR Γ n own) backB p).imp fun x H1 q1 => ?_⟩
  obtain ⟨r, T1, I1, _, x1, w1, r1, p1⟩ := q1
  obtain ⟨b, e, p2⟩ := Post.opt p1
  rw [rBl_ok e] at r1
  exact ⟨b, r1.unsh.bl, p2 b H1 I1 Ext.refl w1 rfl⟩
def tCmp (o : Cp2) (a b : CE) : CT where
  ev := evB (ev2 a.ev b.ev o.f)
  chk := fun k sc e => match e with
    | .Compare x [op] [y] _ => (op == o.op) && (notSet y && (a.chk k sc x && b.chk k sc y))
    | _ => false
  need := fun Γ => a.need Γ ∧ b.need Γ
  z := a.z || b.z
  ok := by
    intro Γ k W sc X e n g nd h hz
    split at h
    · obtain ⟨h1, h⟩ := b2 h
      obtain ⟨h0, h⟩ := b2 h
      obtain ⟨h2, h3⟩ := b2 h
      rw [eq_of_beq h1]
      refine PT.mono (pt_cmpR (o.snd (n := n) g) (a.ok g nd.1 h2 (or1 hz).1) (b.ok g nd.2 h3 (or1 hz).2) (notSet_ok h0 _)) fun σ H Q q => ?_
      exact tE_two σ H _ (tT_val σ H Q q)
    · cases h
/-- expressions whose test is their value's truth -/
def plainT : Expr → Bool
  | .Name .. => true
  | .Call .. => true
  | .Attribute .. => true
  | .Subscript .. => true
  | .Constant .. => false
  | _ => false
theorem plainT_ok {e : Expr} (h : plainT e = true) {env : PySem.Env} (whole : Sem Value) : isTrue e env whole = (do let v ← whole; standAt e.pos; holding [v] (truthy v)) := by
  cases e <;> first | rfl | cases h
/-- a value that is a bool, as a test -/
def tVal (a : CE) : CT where
  ev := evB a.ev
  chk := fun k sc e => plainT e && a.chk k sc e
  need := a.need
  z := a.z
  ok := by
    intro Γ k W sc X e n g nd h hz
    obtain ⟨h1, h2⟩ := b2 h
    refine PT.mono (pt_val (a.ok g nd h2 hz) (plainT_ok h1)) fun σ H Q q => ?_
    exact tT_val σ H Q q
def tNotT (a : CT) : CT where
  ev := fun ρ T => (a.ev ρ T).bind fun b T1 => .ok (!b) T1
  chk := fun k sc e => match e with
    | .UnaryOp .Not x _ => a.chk k sc x
    | _ => false
  need := a.need
  z := a.z
  ok := by
    intro Γ k W sc X e n g nd h hz
    split at h
    · refine PT.mono (pt_not (a.ok g nd h hz)) fun σ H Q q => ?_
      obtain ⟨I, ρ, T, own, w, er, p⟩ := q
      refine ⟨I, ρ, T, own, w, er, (Post.bind (rel := relB) backB p).imp fun x H1 q1 => ?_⟩
      obtain ⟨r, T1, I1, _, x1, w1, r1, p1⟩ := q1
      have e1 : x = r := r1
      rw [e1]
      exact p1 _ H1 I1 Ext.refl w1 rfl
    · cases h
end Tp
end
section
set_option Elab.async false
set_option linter.all false
set_option maxRecDepth 100000
set_option maxHeartbeats 2000000
/-! TpD: the operations. -/
namespace Tp
open PySem PySem.Spec PyProof.Rows L2

/-- as many things as a list may have here -/
abbrev lim : Nat := 1000000
theorem lim_le : lim ≤ sizeLine := by rw [sizeLine_eq]; decide
abbrev rI (i : Int) : R := .v (.sh (.int i))
abbrev rB (b : Bool) : R := .v (.sh (.bl b))
abbrev rN : R := .v (.sh .non)
abbrev rL (xs : List D) : R := .v (.ow xs)
/-- a list's items -/
def rLst : R → Option (List D)
  | .v (.sh (.lst xs)) => some xs
  | .v (.ow xs) => some xs
  | .bw xs => some xs
  | _ => none
/-- .. also of a list of somebody else's -/
def rLs2 : R → Option (List D)
  | .v (.sh (.lst xs)) => some xs
  | .v (.sh (.fz xs)) => some xs
  | .v (.ow xs) => some xs
  | .bw xs => some xs
  | _ => none
def rTup : R → Option (List D)
  | .v (.sh (.tup xs)) => some xs
  | _ => none
section
variable {Γ : Gam} {n : Nat} {own : Nat → List Addr} {Hs H : Hp} {I : Im} {T : Cs}
theorem rLst_ok (w : Wf Γ H I T) {r : R} {xs : List D} {v : V} (h : rLst r = some xs) (q : RepR Γ n own Hs H I r v) : ∃ a vs, v = .ref a ∧ H a = some (.lst vs) ∧ Reps Γ I xs vs := by
  unfold rLst at h
  split at h
  · cases h
    obtain ⟨a, vs, h1, h2, h3⟩ := q.unsh.lst
    exact ⟨a, vs, h1, w.gh _ _ h2, h3⟩
  · cases h
    obtain ⟨as, ⟨a, vs, _, h1, h2, h3⟩, _⟩ := q
    exact ⟨a, vs, h1, h2, h3⟩
  · cases h
    obtain ⟨a, vs, h1, h2, _, _, _, h3⟩ := q
    exact ⟨a, vs, h1, h2, h3⟩
  · cases h
theorem rLs2_ok (w : Wf Γ H I T) {r : R} {xs : List D} {v : V} (h : rLs2 r = some xs) (q : RepR Γ n own Hs H I r v) : ∃ a vs, v = .ref a ∧ SqL Γ.K H a vs ∧ Reps Γ I xs vs := by
  unfold rLs2 at h
  split at h
  · cases h
    obtain ⟨a, vs, h1, h2, h3⟩ := q.unsh.lst
    exact ⟨a, vs, h1, SqL.of (w.gh _ _ h2), h3⟩
  · cases h
    obtain ⟨a, vs, h1, h2, h3⟩ := q.unsh.fz
    exact ⟨a, vs, h1, SqL.ext w.gh h2, h3⟩
  · cases h
    obtain ⟨as, ⟨a, vs, _, h1, h2, h3⟩, _⟩ := q
    exact ⟨a, vs, h1, SqL.of h2, h3⟩
  · cases h
    obtain ⟨a, vs, h1, h2, _, _, _, h3⟩ := q
    exact ⟨a, vs, h1, SqL.of h2, h3⟩
  · cases h
theorem rTup_ok (w : Wf Γ H I T) {r : R} {xs : List D} {v : V} (h : rTup r = some xs) (q : RepR Γ n own Hs H I r v) : ∃ a vs, v = .ref a ∧ SqT Γ.K H a vs ∧ Reps Γ I xs vs := by
  unfold rTup at h
  split at h
  · cases h
    obtain ⟨a, vs, h1, h2, h3⟩ := q.unsh.tup
    exact ⟨a, vs, h1, SqT.ext w.gh h2, h3⟩
  · cases h
variable {Q : VK}
/-- the new list is handed on -/
theorem give_list {xs : List D} {vs : List V} (w : Wf Γ H I T) (h : Reps Γ I xs vs) (q : ∀ v H' I', Ext O0 H I H' I' → Wf Γ H' I' T → RepR Γ n own H H' I' (.v (.ow xs)) v → Q v H') :
    ∀ p, H p = none → Q (.ref p) (upd H p (.lst vs)) := fun p hp => by
  refine q _ _ I (Ext.new hp _) (w.new hp _) ⟨[p], ⟨p, vs, rfl, rfl, upd_same, h⟩, fun a ha => ?_⟩
  have e : a = p := by simpa using ha
  subst e
  exact ⟨w.gnone hp, w.nocell hp, by rw [upd_same]; simp, hp⟩
/-- the new tuple -/
theorem give_tup {xs : List D} {vs : List V} (w : Wf Γ H I T) (h : Reps Γ I xs vs) (q : ∀ v H' I', Ext O0 H I H' I' → Wf Γ H' I' T → RepR Γ n own H H' I' (.v (.sh (.tup xs))) v → Q v H') :
    ∀ p, H p = none → Q (.ref p) (upd H p (.tup vs)) := fun p hp => by
  have x : Ext O0 H I (upd H p (.tup vs)) ⟨upd I.G p (.tup vs), I.κ, I.me⟩ := Ext.newG hp (w.gnone hp)
  refine q _ _ _ x (w.newG hp _) (.sh (.ofTup (SqT.of upd_same) (h.mono x.le)))
theorem give_val {d : D} {v : V} (w : Wf Γ H I T) (h : Rep Γ I d v) (q : ∀ v H' I', Ext O0 H I H' I' → Wf Γ H' I' T → RepR Γ n own H H' I' (.v (.sh d)) v → Q v H') : Q v H :=
  q v H I Ext.refl w (.sh h)
end
theorem rd2_mk {Γ : Gam} {n : Nat} {f : List R → Option R} {r : R2} (h : ∀ (H : Hp) (I : Im) (T : Cs) (own : Nat → List Addr) (Hs : Hp) (a b c : R) (x y : V) (Q : VK), Wf Γ H I T → RepR Γ n own Hs H I a x → RepR Γ n own Hs H I b y → f [a, b] = some c →
    (∀ v H' I', Ext O0 H I H' I' → Wf Γ H' I' T → RepR Γ n own H H' I' c v → Q v H') → r x y H Q) : ∀ x y H Q, rd2 Γ n f x y H Q → r x y H Q := fun x y H Q q => by
  obtain ⟨I, T, own, Hs, rs, c, w, rr, e, k⟩ := q
  match rs, rr with
  | [], rr => cases rr
  | [a], rr =>
    obtain ⟨_, _, e1, _, e2⟩ := rr
    rw [e2] at e1; cases e1
  | [a, b], rr =>
    obtain ⟨v, us, e1, h1, v2, us2, e2, h2, e3⟩ := rr
    rw [e2, e3] at e1
    cases e1
    exact h H I T own Hs a b c x y Q w h1 h2 e k
  | a :: b :: c :: r, rr =>
    have := rr.length
    simp at this
theorem rd1_mk {Γ : Gam} {n : Nat} {f : List R → Option R} {r : V → Hp → VK → Prop} (h : ∀ (H : Hp) (I : Im) (T : Cs) (own : Nat → List Addr) (Hs : Hp) (a c : R) (x : V) (Q : VK), Wf Γ H I T → RepR Γ n own Hs H I a x → f [a] = some c →
    (∀ v H' I', Ext O0 H I H' I' → Wf Γ H' I' T → RepR Γ n own H H' I' c v → Q v H') → r x H Q) : ∀ x H Q, rd1 Γ n f x H Q → r x H Q := fun x H Q q => by
  obtain ⟨I, T, own, Hs, rs, c, w, rr, e, k⟩ := q
  match rs, rr with
  | [], rr => cases rr
  | [a], rr =>
    obtain ⟨_, _, e1, h1, e2⟩ := rr
    rw [e2] at e1; cases e1
    exact h H I T own Hs a c x Q w h1 e k
  | a :: b :: r, rr =>
    have := rr.length
    simp at this

/-! ### ints -/
def iF (g : Int → Int → Option D) (rs : List R) : Option R := match rs with
  | [.v (.sh (.int i)), .v (.sh (.int j))] => (g i j).map fun d => .v (.sh d)
  | _ => none
theorem iF_ok {g : Int → Int → Option D} {a b c : R} (h : iF g [a, b] = some c) : ∃ i j d, a = rI i ∧ b = rI j ∧ g i j = some d ∧ c = .v (.sh d) := by
  unfold iF at h
  split at h
  · rename_i i j e
    obtain ⟨d, e1, e2⟩ := Option.map_eq_some_iff.mp h
    cases e
    exact ⟨i, j, d, rfl, rfl, e1, e2.symm⟩
  · cases h
theorem iF_rd {Γ : Gam} {n : Nat} {g : Int → Int → Option D} {r : R2} (h : ∀ i j d H Q, g i j = some d → (∀ v, (∀ I, Rep Γ I d v) → Q v H) → r (.int i) (.int j) H Q) : ∀ x y H Q, rd2 Γ n (iF g) x y H Q → r x y H Q :=
  rd2_mk fun H I T own Hs a b c x y Q w ra rb e k => by
    obtain ⟨i, j, d, rfl, rfl, e1, rfl⟩ := iF_ok e
    rw [ra.unsh.int, rb.unsh.int]
    exact h i j d H Q e1 fun v hv => give_val w (hv I) k
def addI (i j : Int) : Option D := some (.int (i + j))
def subI (i j : Int) : Option D := some (.int (i - j))
def bigB : Int := 18446744073709551616
def mulI (i j : Int) : Option D := if (-bigB < i ∧ i < bigB) ∨ (-bigB < j ∧ j < bigB) then some (.int (i * j)) else none
def divI (i j : Int) : Option D := if 0 < j ∧ j < 1073741824 then some (.int (i / j)) else none
def modI (i j : Int) : Option D := if 0 < j then some (.int (i % j)) else none
def powI (i j : Int) : Option D := if 0 ≤ j ∧ j ≤ 1000 ∧ i.natAbs < 1000000 then some (.int (i ^ j.toNat)) else none
def ltI (i j : Int) : Option D := some (.bl (decide (i < j)))
def leI (i j : Int) : Option D := some (.bl (decide (i ≤ j)))
def gtI (i j : Int) : Option D := some (.bl (decide (j < i)))
def geI (i j : Int) : Option D := some (.bl (decide (j ≤ i)))

/-! ### + -/
def fAdd (rs : List R) : Option R := match rs with
  | [.v (.sh (.int i)), .v (.sh (.int j))] => some (rI (i + j))
  | [.v (.sh (.str s)), .v (.sh (.str t))] => if s.length + t.length ≤ lim then some (.v (.sh (.str (s ++ t)))) else none
  | [.v (.sh (.tup xs)), .v (.sh (.tup ys))] => if xs ≠ [] ∧ ys ≠ [] ∧ xs.length + ys.length ≤ lim then some (.v (.sh (.tup (xs ++ ys)))) else none
  | [a, b] => match rLst a, rLst b with
    | some xs, some ys => if xs.length + ys.length ≤ lim then some (rL (xs ++ ys)) else none
    | _, _ => none
  | _ => none
theorem op_add_all {X : Cx} {Γ : Gam} {n : Nat} (hK : X.K = Γ.K) : OpR X (binaryOp .Add) (rd2 Γ n fAdd) := by
  refine OpR.mono (OpR.or op_add (OpR.or op_cat (OpR.or op_catT op_add_str))) (rd2_mk fun H I T own Hs a b c x y Q w ra rb e k => ?_)
  unfold fAdd at e
  split at e
  · rename_i i j q
    cases q; cases e
    rw [ra.unsh.int, rb.unsh.int]
    exact .inl ⟨i, j, rfl, rfl, give_val w .ofInt k⟩
  · rename_i s t q
    cases q
    split at e
    · rename_i hl
      cases e
      rw [ra.unsh.str, rb.unsh.str]
      exact .inr (.inr (.inr ⟨s, t, rfl, rfl, Nat.le_trans hl lim_le, give_val w .ofStr k⟩))
    · cases e
  · rename_i xs ys q
    cases q
    split at e
    · rename_i hl
      obtain ⟨h1, h2, h3⟩ := hl
      cases e
      obtain ⟨p, vs, rfl, p1, p2⟩ := rTup_ok w rfl ra
      obtain ⟨p', us, rfl, p1', p2'⟩ := rTup_ok w rfl rb
      refine .inr (.inr (.inl ⟨p, p', vs, us, rfl, rfl, by rw [hK]; exact p1, by rw [hK]; exact p1', ?_, ?_, ?_⟩))
      · intro z; have := p2.length; rw [z] at this; exact h1 (List.length_eq_zero_iff.mp this.symm)
      · rw [p2.length, p2'.length]; exact Nat.le_trans h3 lim_le
      · refine ⟨fun z => ?_, fun _ => give_tup w (p2.append p2') k⟩
        have := p2'.length; rw [z] at this; exact absurd (List.length_eq_zero_iff.mp this.symm) h2
    · cases e
  · rename_i a b h1 h2 h3 q
    cases q
    split at e
    · rename_i xs ys e1 e2
      split at e
      · rename_i hl
        cases e
        obtain ⟨p, vs, rfl, p1, p2⟩ := rLst_ok w e1 ra
        obtain ⟨p', us, rfl, p1', p2'⟩ := rLst_ok w e2 rb
        exact .inr (.inl ⟨p, p', vs, us, rfl, rfl, p1, p1', by rw [p2.length, p2'.length]; exact Nat.le_trans hl lim_le, give_list w (p2.append p2') k⟩)
      · cases e
    · cases e
  · cases e
def oAdd : Op2 where
  op := .Add
  f := fAdd
  snd := fun g => op_add_all g.K
def oSub : Op2 where
  op := .Sub
  f := iF subI
  snd := fun g => OpR.mono op_sub (iF_rd fun i j d H Q e k => ⟨i, j, rfl, rfl, by cases e; exact k _ fun _ => .ofInt⟩)
/-! ### times -/
def fMul (rs : List R) : Option R := match rs with
  | [.v (.sh (.int i)), .v (.sh (.int j))] => (mulI i j).map fun d => .v (.sh d)
  | [a, .v (.sh (.int k))] => match rLst a with
    | some xs => if -(2 ^ 62) ≤ k ∧ k < 2 ^ 62 ∧ xs.length * k.toNat ≤ lim then some (rL (List.replicate k.toNat xs).flatten) else none
    | none => none
  | _ => none
theorem mulI_ok {i j : Int} {d : D} (h : mulI i j = some d) : CMul i j ∧ d = .int (i * j) := by
  unfold mulI bigB at h
  split at h
  · rename_i q
    cases h
    exact ⟨by unfold CMul; simpa using q, rfl⟩
  · cases h
theorem op_mul_all {X : Cx} {Γ : Gam} {n : Nat} : OpR X (binaryOp .Mult) (rd2 Γ n fMul) := by
  refine OpR.mono (OpR.or op_mul op_rep) (rd2_mk fun H I T own Hs a b c x y Q w ra rb e k => ?_)
  unfold fMul at e
  split at e
  · rename_i i j q
    cases q
    obtain ⟨d, e1, rfl⟩ := Option.map_eq_some_iff.mp e
    obtain ⟨h1, rfl⟩ := mulI_ok e1
    rw [ra.unsh.int, rb.unsh.int]
    exact .inl ⟨i, j, rfl, rfl, h1, give_val w .ofInt k⟩
  · rename_i a m h1 q
    cases q
    split at e
    · rename_i xs e1
      split at e
      · rename_i hl
        obtain ⟨l1, l2, l3⟩ := hl
        cases e
        obtain ⟨p, vs, rfl, p1, p2⟩ := rLst_ok w e1 ra
        rw [rb.unsh.int]
        exact .inr ⟨p, m, vs, rfl, rfl, p1, by omega, by omega, by rw [p2.length]; exact Nat.le_trans l3 lim_le, give_list w (p2.rep _) k⟩
      · cases e
    · cases e
  · cases e
def oMul : Op2 where
  op := .Mult
  f := fMul
  snd := fun _ => op_mul_all
def oDiv : Op2 where
  op := .FloorDiv
  f := iF divI
  snd := fun g => OpR.mono op_fdiv (iF_rd fun i j d H Q e k => by
    unfold divI at e
    split at e
    · rename_i h
      cases e
      exact ⟨i, j, rfl, rfl, h, k _ fun _ => .ofInt⟩
    · cases e)
def oMod : Op2 where
  op := .Mod
  f := iF modI
  snd := fun g => OpR.mono op_mod (iF_rd fun i j d H Q e k => by
    unfold modI at e
    split at e
    · rename_i h
      cases e
      exact ⟨i, j, rfl, rfl, h, k _ fun _ => .ofInt⟩
    · cases e)
def oPow : Op2 where
  op := .Pow
  f := iF powI
  snd := fun g => OpR.mono op_pow (iF_rd fun i j d H Q e k => by
    unfold powI at e
    split at e
    · rename_i h
      cases e
      exact ⟨i, j, rfl, rfl, ⟨h.1, by omega, by have := h.2.2; omega⟩, k _ fun _ => .ofInt⟩
    · cases e)
def oLt : Cp2 where
  op := .Lt
  f := iF ltI
  snd := fun g => OpR.mono op_lt (iF_rd fun i j d H Q e k => ⟨i, j, rfl, rfl, by cases e; exact k _ fun _ => .ofBl⟩)
def oLe : Cp2 where
  op := .LtE
  f := iF leI
  snd := fun g => OpR.mono op_le (iF_rd fun i j d H Q e k => ⟨i, j, rfl, rfl, by cases e; exact k _ fun _ => .ofBl⟩)
def oGt : Cp2 where
  op := .Gt
  f := iF gtI
  snd := fun g => OpR.mono op_gt (iF_rd fun i j d H Q e k => ⟨i, j, rfl, rfl, by cases e; exact k _ fun _ => .ofBl⟩)
def oGe : Cp2 where
  op := .GtE
  f := iF geI
  snd := fun g => OpR.mono op_ge (iF_rd fun i j d H Q e k => ⟨i, j, rfl, rfl, by cases e; exact k _ fun _ => .ofBl⟩)

/-! ### == of data -/
mutual
def toPy : D → Option PyData
  | .non => some .none
  | .bl b => some (.bool b)
  | .int i => some (.int i)
  | .str s => some (.str s)
  | .lst xs => (toPys xs).map .list
  | .fz xs => (toPys xs).map .list
  | .tup xs => (toPys xs).map .tuple
  | .dct _ => none
  | .obj _ _ => none
  | .cell _ => none
def toPys : List D → Option (List PyData)
  | [] => some []
  | x :: xs => match toPy x, toPys xs with
    | some p, some ps => some (p :: ps)
    | _, _ => none
end
def rPy : R → Option PyData
  | .v (.sh d) => toPy d
  | .v (.ow xs) => (toPys xs).map .list
  | .bw xs => (toPys xs).map .list
  | _ => none
section
variable {Γ : Gam} {I : Im} {H : Hp}
mutual
theorem toPy_ok (gh : ∀ a o, I.G a = some o → H a = some o) : ∀ {d : D} {v : V} {p : PyData}, Rep Γ I d v → toPy d = some p → Dp Γ.K H v p
  | .non, _, _, h, e => by simp only [toPy] at e; cases e; rw [h.non]; exact .non
  | .bl b, _, _, h, e => by simp only [toPy] at e; cases e; rw [h.bl]; exact .bl b
  | .int b, _, _, h, e => by simp only [toPy] at e; cases e; rw [h.int]; exact .int b
  | .str b, _, _, h, e => by simp only [toPy] at e; cases e; rw [h.str]; exact .str b
  | .lst xs, _, _, h, e => by
    simp only [toPy] at e
    obtain ⟨ps, e1, rfl⟩ := Option.map_eq_some_iff.mp e
    obtain ⟨a, vs, rfl, h2, h3⟩ := h.lst
    exact .lst (SqL.of (gh _ _ h2)) (toPys_ok gh h3 e1)
  | .fz xs, _, _, h, e => by
    simp only [toPy] at e
    obtain ⟨ps, e1, rfl⟩ := Option.map_eq_some_iff.mp e
    obtain ⟨a, vs, rfl, h2, h3⟩ := h.fz
    exact .lst (SqL.ext gh h2) (toPys_ok gh h3 e1)
  | .tup xs, _, _, h, e => by
    simp only [toPy] at e
    obtain ⟨ps, e1, rfl⟩ := Option.map_eq_some_iff.mp e
    obtain ⟨a, vs, rfl, h2, h3⟩ := h.tup
    exact .tup (SqT.ext gh h2) (toPys_ok gh h3 e1)
  | .dct _, _, _, _, e => by simp only [toPy] at e; cases e
  | .obj _ _, _, _, _, e => by simp only [toPy] at e; cases e
  | .cell _, _, _, _, e => by simp only [toPy] at e; cases e
theorem toPys_ok (gh : ∀ a o, I.G a = some o → H a = some o) : ∀ {ds : List D} {vs : List V} {ps : List PyData}, Reps Γ I ds vs → toPys ds = some ps → DpAll Γ.K H vs ps
  | [], _, _, h, e => by
    simp only [toPys] at e; cases e
    simp only [Reps] at h; subst h
    exact .nil
  | d :: ds, _, _, h, e => by
    simp only [Reps] at h
    obtain ⟨v, r, rfl, h2, h3⟩ := h
    simp only [toPys] at e
    split at e
    · rename_i p ps e1 e2
      cases e
      exact .cons (toPy_ok gh h2 e1) (toPys_ok gh h3 e2)
    · cases e
end
end
theorem rPy_ok {Γ : Gam} {n : Nat} {own : Nat → List Addr} {Hs H : Hp} {I : Im} {T : Cs} (w : Wf Γ H I T) {r : R} {p : PyData} {v : V} (h : rPy r = some p) (q : RepR Γ n own Hs H I r v) : Dp Γ.K H v p := by
  unfold rPy at h
  split at h
  · exact toPy_ok w.gh q.unsh h
  · obtain ⟨ps, e1, rfl⟩ := Option.map_eq_some_iff.mp h
    obtain ⟨a, vs, rfl, h2, h3⟩ := rLst_ok w rfl q
    exact .lst (SqL.of h2) (toPys_ok w.gh h3 e1)
  · obtain ⟨ps, e1, rfl⟩ := Option.map_eq_some_iff.mp h
    obtain ⟨a, vs, rfl, h2, h3⟩ := rLst_ok w rfl q
    exact .lst (SqL.of h2) (toPys_ok w.gh h3 e1)
  · cases h
def eqR (a b : R) : Option Bool := match a, b with
  | .v (.sh (.int i)), .v (.sh (.int j)) => some (decide (i = j))
  | a, b => match rPy a, rPy b with
    | some p, some q => if SeqAt.shaped p && SeqAt.shaped q then some (PyData.eqv p q) else none
    | _, _ => none
theorem eqR_ok {Γ : Gam} {n : Nat} {own : Nat → List Addr} {Hs H : Hp} {I : Im} {T : Cs} (w : Wf Γ H I T) {a b : R} {k : Bool} {x y : V} (h : eqR a b = some k) (ra : RepR Γ n own Hs H I a x) (rb : RepR Γ n own Hs H I b y) :
    ∃ p q, Dp Γ.K H x p ∧ Dp Γ.K H y q ∧ SeqAt.shaped p = true ∧ SeqAt.shaped q = true ∧ k = PyData.eqv p q := by
  unfold eqR at h
  split at h
  · rename_i i j
    cases h
    rw [ra.unsh.int, rb.unsh.int]
    refine ⟨_, _, .int i, .int j, rfl, rfl, ?_⟩
    show decide (i = j) = (i == j)
    exact (Bool.beq_eq_decide_eq i j).symm
  · split at h
    · rename_i p q e1 e2
      split at h
      · rename_i hs
        cases h
        obtain ⟨s1, s2⟩ := b2 hs
        exact ⟨p, q, rPy_ok w e1 ra, rPy_ok w e2 rb, s1, s2, rfl⟩
      · cases h
    · cases h
def fEq (rs : List R) : Option R := match rs with
  | [a, b] => (eqR a b).map rB
  | _ => none
def fNe (rs : List R) : Option R := match rs with
  | [a, b] => (eqR a b).map fun k => rB (!k)
  | _ => none
def oEq : Cp2 where
  op := .Eq
  f := fEq
  snd := fun {Γ k W sc X n} g => by
    refine OpR.mono (op_eqD g.room.units) (rd2_mk fun H I T own Hs a b c x y Q w ra rb e q => ?_)
    obtain ⟨z, e1, rfl⟩ := Option.map_eq_some_iff.mp (show (eqR a b).map rB = some c from e)
    obtain ⟨p, p', d1, d2, s1, s2, rfl⟩ := eqR_ok w e1 ra rb
    refine ⟨p, p', by rw [g.K]; exact d1, by rw [g.K]; exact d2, s1, s2, give_val w .ofBl q⟩
def oNe : Cp2 where
  op := .NotEq
  f := fNe
  snd := fun {Γ k W sc X n} g => by
    refine OpR.mono (op_neD g.room.units) (rd2_mk fun H I T own Hs a b c x y Q w ra rb e q => ?_)
    obtain ⟨z, e1, rfl⟩ := Option.map_eq_some_iff.mp (show (eqR a b).map (fun k => rB (!k)) = some c from e)
    obtain ⟨p, p', d1, d2, s1, s2, rfl⟩ := eqR_ok w e1 ra rb
    refine ⟨p, p', by rw [g.K]; exact d1, by rw [g.K]; exact d2, s1, s2, give_val w .ofBl q⟩
/-! ### is -/
def isNon : R → Bool
  | .v (.sh .non) => true
  | _ => false
theorem isNon_ok {Γ : Gam} {n : Nat} {own : Nat → List Addr} {Hs H : Hp} {I : Im} {r : R} {v : V} (q : RepR Γ n own Hs H I r v) : decide (v = .non) = isNon r := by
  have key : ∀ a : Addr, decide (V.ref a = .non) = false := fun a => by simp
  cases r with
  | bw xs => obtain ⟨a, _, rfl, _⟩ := q; exact key a
  | bd xs => obtain ⟨a, _, rfl, _⟩ := q; exact key a
  | v lv =>
    obtain ⟨as, q, _⟩ := q
    cases lv with
    | ow xs => obtain ⟨a, _, _, rfl, _⟩ := q; exact key a
    | od xs => obtain ⟨a, _, _, rfl, _⟩ := q; exact key a
    | oo c xs => obtain ⟨a, _, _, _, rfl, _⟩ := q; exact key a
    | zp xs ys => obtain ⟨z, _, _, _, _, _, _, _, _, _, rfl, _⟩ := q; exact key z
    | sh d =>
      have q2 : Rep Γ I d v := q.2
      cases d with
      | non => rw [q2.non]; rfl
      | bl b => rw [q2.bl]; simp [isNon]
      | int b => rw [q2.int]; simp [isNon]
      | str b => rw [q2.str]; simp [isNon]
      | lst xs => obtain ⟨a, _, rfl, _⟩ := q2.lst; exact key a
      | fz xs => obtain ⟨a, _, rfl, _⟩ := q2.fz; exact key a
      | tup xs => obtain ⟨a, _, rfl, _⟩ := q2.tup; exact key a
      | dct xs => simp only [Rep] at q2; obtain ⟨a, _, _, rfl, _⟩ := q2; exact key a
      | obj c xs => simp only [Rep] at q2; obtain ⟨a, _, _, rfl, _⟩ := q2; exact key a
      | cell m => simp only [Rep] at q2; obtain ⟨a, rfl, _⟩ := q2; exact key a
def isR (a b : R) : Option Bool := match a, b with
  | a, .v (.sh .non) => some (isNon a)
  | .v (.sh (.bl x)), .v (.sh (.bl y)) => some (decide (x = y))
  | _, _ => none
def oIs : Cp2 where
  op := .Is
  f := fun rs => match rs with
    | [a, b] => (isR a b).map rB
    | _ => none
  snd := fun {Γ k W sc X n} g => by
    refine OpR.mono (OpR.or op_isN op_isBl) (rd2_mk fun H I T own Hs a b c x y Q w ra rb e q => ?_)
    obtain ⟨z, e1, rfl⟩ := Option.map_eq_some_iff.mp (show (isR a b).map rB = some c from e)
    unfold isR at e1
    split at e1
    · cases e1
      exact .inl ⟨rb.unsh.non, by rw [isNon_ok ra]; exact give_val w .ofBl q⟩
    · cases e1
      exact .inr ⟨_, _, ra.unsh.bl, rb.unsh.bl, give_val w .ofBl q⟩
    · cases e1
def oIsNot : Cp2 where
  op := .IsNot
  f := fun rs => match rs with
    | [a, b] => (isR a b).map fun k => rB (!k)
    | _ => none
  snd := fun {Γ k W sc X n} g => by
    refine OpR.mono (OpR.or op_notN op_notBl) (rd2_mk fun H I T own Hs a b c x y Q w ra rb e q => ?_)
    obtain ⟨z, e1, rfl⟩ := Option.map_eq_some_iff.mp (show (isR a b).map (fun k => rB (!k)) = some c from e)
    unfold isR at e1
    split at e1
    · cases e1
      exact .inl ⟨rb.unsh.non, by rw [isNon_ok ra]; exact give_val w .ofBl q⟩
    · cases e1
      exact .inr ⟨_, _, ra.unsh.bl, rb.unsh.bl, give_val w .ofBl q⟩
    · cases e1
end Tp
end
section
set_option Elab.async false
set_option linter.all false
set_option maxRecDepth 100000
set_option maxHeartbeats 2000000
/-! TpE: answers as plain data; displays, subscripts, slices, and/or, in. -/
namespace Tp
open PySem PySem.Spec PyProof.Rows L2

/-- the answer becomes plain data: a new list is nobody's own any more -/
def rD : R → Option D
  | .v (.sh d) => some d
  | .v (.ow xs) => some (.lst xs)
  | _ => none
def evD (a : Env → Cs → Ev R) : Env → Cs → Ev D := fun ρ T => (a ρ T).bind fun r T1 => Ev.opt (rD r) T1
def relD (Γ : Gam) (_ _ : Hp) (I : Im) (d : D) (v : V) : Prop := Rep Γ I d v
theorem backD {Γ : Gam} : Backs (relD Γ) := ⟨fun _ q => q⟩
def relDs (Γ : Gam) (_ _ : Hp) (I : Im) (d : List D) (v : List V) : Prop := Reps Γ I d v
theorem backDs {Γ : Gam} : Backs (relDs Γ) := ⟨fun _ q => q⟩
theorem Ext.frz {H0 H : Hp} {I0 I : Im} {a : Addr} {o : HO} (x : Ext O0 H0 I0 H I) (h0 : H0 a = none) (hg : I.G a = none) : Ext O0 H0 I0 H ⟨upd I.G a o, I.κ, I.me⟩ :=
  ⟨fun b u e => by
    show upd I.G a o b = _
    rw [upd_ne (ne_of_none (x.gg b u e) hg)]; exact x.gg b u e, x.kk, x.fr, x.th, fun b q => by
    by_cases e : b = a
    · subst e; exact .inr (.inl h0)
    · exact x.gn b (by have q2 : upd I.G a o b ≠ none := q; rw [upd_ne e] at q2; exact q2), x.kn, x.mm⟩
theorem Im.Le.frz {I : Im} {a : Addr} {o : HO} (hg : I.G a = none) : Im.Le I ⟨upd I.G a o, I.κ, I.me⟩ :=
  ⟨fun b u e => by show upd I.G a o b = _; rw [upd_ne (ne_of_none e hg)]; exact e, fun _ _ h => h, rfl⟩
section
variable {Γ : Gam} {n : Nat} {W : WX} {σ : L2.St} {own : Nat → List Addr}
theorem RepR.toD {H0 H : Hp} {I0 I : Im} {T : Cs} (x : Ext O0 H0 I0 H I) (w : Wf Γ H I T) {r : R} {d : D} {v : V} (e : rD r = some d) (q : RepR Γ n own H0 H I r v) : ∃ I', Ext O0 H0 I0 H I' ∧ Wf Γ H I' T ∧ Im.Le I I' ∧ Rep Γ I' d v := by
  unfold rD at e
  split at e
  · cases e
    exact ⟨I, x, w, ⟨fun _ _ h => h, fun _ _ h => h, rfl⟩, q.unsh⟩
  · cases e
    obtain ⟨as, ⟨a, vs, rfl, rfl, h2, h3⟩, h4⟩ := q
    obtain ⟨g1, g2, g3, g4⟩ := h4 a (by simp)
    have le : Im.Le I ⟨upd I.G a (.lst vs), I.κ, I.me⟩ := Im.Le.frz g1
    exact ⟨_, x.frz g4 g1, w.freeze h2 g1 g2, le, .ofLst (show upd I.G a (.lst vs) a = _ from upd_same) (h3.mono le)⟩
  · cases e
/-- wanted of the data, so wanted of the answer -/
theorem Post.toD {H : Hp} {I : Im} {a : Env → Cs → Ev R} {ρ : Env} {T : Cs} {Q : VK} (h : Post Γ (relD Γ) W σ H I (evD a ρ T) Q) : Post Γ (RepR Γ n own) W σ H I (a ρ T) Q := by
  unfold evD at h
  cases e : a ρ T with
  | no => rw [e] at h; exact h
  | ex x T' => rw [e] at h; exact h
  | ok r T1 =>
    rw [e] at h
    intro v H' I' x w q
    obtain ⟨d, e2, k⟩ := Post.opt (show Post Γ (relD Γ) W σ H I (Ev.opt (rD r) T1) Q from h)
    obtain ⟨I2, x2, w2, _, r2⟩ := q.toD x w e2
    exact k v H' I2 x2 w2 r2
def tD (Γ : Gam) (n : Nat) (W : WX) (ev : Env → Cs → Ev D) : TE := fun σ H Q => ∃ I ρ T own, Wf Γ H I T ∧ ER Γ n σ ρ H I own ∧ Post Γ (relD Γ) W σ H I (ev ρ T) Q
theorem tD_of {a : Env → Cs → Ev R} : ∀ σ H Q, tD Γ n W (evD a) σ H Q → tE Γ n W a σ H Q := fun σ H Q ⟨I, ρ, T, own, w, er, p⟩ => ⟨I, ρ, T, own, w, er, p.toD⟩
def tDs (Γ : Gam) (n : Nat) (W : WX) (ev : Env → Cs → Ev (List D)) : TA := fun σ H Q => ∃ I ρ T own, Wf Γ H I T ∧ ER Γ n σ ρ H I own ∧ Post Γ (relDs Γ) W σ H I (ev ρ T) Q
end
/-- arguments as plain data -/
structure CD where
  ev : Env → Cs → Ev (List D)
  len : Nat
  chk : Nat → Sc → List Expr → Bool
  need : Gam → Prop
  z : Bool
  ok : ∀ {Γ : Gam} {k : Nat} {W : WX} {sc : Sc} {X : Cx} {e : List Expr} {n : Nat}, Good Γ k W sc X → need Γ → chk k sc e = true → (z = true → n = X.s_0.heap.objs.size) → PA X e (tDs Γ n W ev)
  star : ∀ {k : Nat} {sc : Sc} {e : List Expr} {env : PySem.Env}, chk k sc e = true → starEach e env = e.map fun x => (false, eval x env)
  hlen : ∀ {ρ : Env} {T T' : Cs} {ds : List D}, ev ρ T = .ok ds T' → ds.length = len
def notStar : Expr → Bool
  | .Starred .. => false
  | _ => true
theorem star_cons {e : Expr} {es : List Expr} {env : PySem.Env} (h : notStar e = true) : starEach (e :: es) env = (false, eval e env) :: starEach es env := by
  cases e <;> first | rfl | cases h
def dNil : CD where
  ev := fun _ T => .ok [] T
  len := 0
  chk := fun _ _ es => es.isEmpty
  need := fun _ => True
  z := false
  ok := by
    intro Γ k W sc X e n g _ h _
    cases e with
    | cons a b => cases h
    | nil => exact PA.mono pa_nil fun σ H Q ⟨I, ρ, T, own, w, er, p⟩ => p [] H I Ext.refl w Reps.nil
  star := fun {k sc e env} h => by
    cases e with
    | cons a b => cases h
    | nil => rfl
  hlen := fun {ρ T T' ds} h => by cases h; rfl
def dCons (a : CE) (r : CD) : CD where
  ev := fun ρ T => (evD a.ev ρ T).bind fun d T1 => (r.ev ρ T1).bind fun ds T2 => .ok (d :: ds) T2
  len := r.len + 1
  chk := fun k sc es => match es with
    | e :: es => notStar e && (a.chk k sc e && r.chk k sc es)
    | _ => false
  need := fun Γ => a.need Γ ∧ r.need Γ
  z := a.z || r.z
  ok := by
    intro Γ k W sc X e n g nd h hz
    split at h
    · obtain ⟨h0, h⟩ := b2 h
      obtain ⟨h1, h2⟩ := b2 h
      refine PA.mono (pa_cons (a.ok g nd.1 h1 (or1 hz).1) (r.ok g nd.2 h2 (or1 hz).2) (star_cons h0)) fun σ H Q q => ?_
      obtain ⟨I, ρ, T, own, w, er, p⟩ := q
      refine ⟨I, ρ, T, own, w, er, Post.toD ((Post.bind (rel := relD Γ) backDs p).imp fun x H1 q1 => ?_)⟩
      obtain ⟨d, T1, I1, _, x1, w1, r1, p1⟩ := q1
      refine ⟨I1, ρ, T1, own, w1, er.ext x1, (Post.bind (rel := relDs Γ) backDs p1).imp fun xs H2 q2 => ?_⟩
      obtain ⟨ds, T2, I2, _, x2, w2, r2, p2⟩ := q2
      exact p2 (x :: xs) H2 I2 Ext.refl w2 (Reps.cons (Rep.mono x2.le r1) r2)
    · cases h
  star := fun {k sc e env} h => by
    cases e with
    | nil => cases h
    | cons e es =>
      obtain ⟨h0, h⟩ := b2 h
      obtain ⟨h1, h2⟩ := b2 h
      rw [star_cons h0, r.star h2]; rfl
  hlen := fun {ρ T T' ds} h => by
    cases e : evD a.ev ρ T with
    | no => rw [e] at h; cases h
    | ex x T1 => rw [e] at h; cases h
    | ok x T1 =>
      rw [e] at h
      have h' : ((r.ev ρ T1).bind fun ds T2 => .ok (x :: ds) T2) = Ev.ok ds T' := h
      cases e2 : r.ev ρ T1 with
      | no => rw [e2] at h'; cases h'
      | ex x T1 => rw [e2] at h'; cases h'
      | ok ds2 T2 =>
        rw [e2] at h'
        cases h'
        rw [List.length_cons, r.hlen e2]
/-- arguments as they are -/
def aNil : CA where
  ev := fun _ T => .ok [] T
  chk := fun _ _ es => es.isEmpty
  need := fun _ => True
  z := false
  ok := by
    intro Γ k W sc X e n g _ h _
    cases e with
    | cons a b => cases h
    | nil => exact PA.mono pa_nil fun σ H Q ⟨I, ρ, T, own, w, er, p⟩ => p [] H I Ext.refl w rfl
  star := fun {k sc e env} h => by
    cases e with
    | cons a b => cases h
    | nil => rfl
def aCons (a : CE) (r : CA) : CA where
  ev := fun ρ T => (a.ev ρ T).bind fun d T1 => (r.ev ρ T1).bind fun ds T2 => .ok (d :: ds) T2
  chk := fun k sc es => match es with
    | e :: es => notStar e && (a.chk k sc e && r.chk k sc es)
    | _ => false
  need := fun Γ => a.need Γ ∧ r.need Γ
  z := a.z || r.z
  ok := by
    intro Γ k W sc X e n g nd h hz
    split at h
    · obtain ⟨h0, h⟩ := b2 h
      obtain ⟨h1, h2⟩ := b2 h
      refine PA.mono (pa_cons (a.ok g nd.1 h1 (or1 hz).1) (r.ok g nd.2 h2 (or1 hz).2) (star_cons h0)) fun σ H Q q => ?_
      obtain ⟨I, ρ, T, own, w, er, p⟩ := q
      refine ⟨I, ρ, T, own, w, er, (Post.step (rel := RepR Γ n own) p Ext.refl).imp fun x H1 q1 => ?_⟩
      obtain ⟨d, T1, I1, _, x1, w1, r1, p1⟩ := q1
      refine ⟨I1, ρ, T1, own, w1, er.ext x1, (Post.step (rel := RepRs Γ n own) p1 x1).imp fun xs H2 q2 => ?_⟩
      obtain ⟨ds, T2, I2, _, x2, w2, r2, p2⟩ := q2
      exact p2 (x :: xs) H2 I2 (x1.tr0 x2) w2 ⟨x, xs, rfl, r1.ext x2, r2.back x1.th⟩
    · cases h
  star := fun {k sc e env} h => by
    cases e with
    | nil => cases h
    | cons e es =>
      obtain ⟨h0, h⟩ := b2 h
      obtain ⟨h1, h2⟩ := b2 h
      rw [star_cons h0, r.star h2]; rfl
end Tp
end
section
set_option Elab.async false
set_option linter.all false
set_option maxRecDepth 100000
set_option maxHeartbeats 2000000
/-! TpF: displays, subscripts, slices, and/or, if/else, in, built-ins. -/
namespace Tp
open PySem PySem.Spec PyProof.Rows L2

theorem Post.ret {Γ : Gam} {W : WX} {σ : L2.St} {H H1 : Hp} {I I1 : Im} {α β : Type} {rel : Hp → Hp → Im → α → β → Prop} {r : α} {T : Cs} {Q : β → Hp → Prop} (h : Post Γ rel W σ H I (.ok r T) Q) {v : β} (x : Ext O0 H I H1 I1) (w : Wf Γ H1 I1 T) (q : rel H H1 I1 r v) : Q v H1 := h v H1 I1 x w q
def cLst (d : CD) : CE where
  ev := fun ρ T => (d.ev ρ T).bind fun ds T1 => Ev.opt (if ds.length ≤ lim then some (rL ds) else none) T1
  chk := fun k sc e => match e with
    | .List es _ => d.chk k sc es
    | _ => false
  need := d.need
  z := d.z
  ok := by
    intro Γ k W sc X e n g nd h hz
    split at h
    · refine PE.mono (pe_lst (d.ok g nd h hz)) fun σ H Q q => ?_
      obtain ⟨I, ρ, T, own, w, er, p⟩ := q
      refine ⟨I, ρ, T, own, w, er, (Post.bind (rel := relDs Γ) backR p).imp fun xs H1 q1 => ?_⟩
      obtain ⟨ds, T1, I1, _, x1, w1, r1, p1⟩ := q1
      obtain ⟨r, e1, p2⟩ := Post.opt p1
      split at e1
      · rename_i hl
        cases e1
        have r1' : Reps Γ I1 ds xs := r1
        exact ⟨by rw [r1'.length]; exact Nat.le_trans hl lim_le, give_list w1 r1' p2⟩
      · cases e1
    · cases h
def cTup (d : CD) : CE where
  ev := fun ρ T => (d.ev ρ T).bind fun ds T1 => Ev.opt (if ds.length ≤ lim then some (.v (.sh (.tup ds))) else none) T1
  chk := fun k sc e => match e with
    | .Tuple es _ _ => d.chk k sc es
    | _ => false
  need := d.need
  z := d.z
  ok := by
    intro Γ k W sc X e n g nd h hz
    split at h
    · refine PE.mono (pe_tup (d.ok g nd h hz)) fun σ H Q q => ?_
      obtain ⟨I, ρ, T, own, w, er, p⟩ := q
      refine ⟨I, ρ, T, own, w, er, (Post.bind (rel := relDs Γ) backR p).imp fun xs H1 q1 => ?_⟩
      obtain ⟨ds, T1, I1, _, x1, w1, r1, p1⟩ := q1
      obtain ⟨r, e1, p2⟩ := Post.opt p1
      split at e1
      · rename_i hl
        cases e1
        have r1' : Reps Γ I1 ds xs := r1
        exact ⟨by rw [r1'.length]; exact Nat.le_trans hl lim_le, give_tup w1 r1' p2⟩
      · cases e1
    · cases h

/-! ### subscripts -/
def fIx (T : Cs) (a b : R) : Option R := match b with
  | .v (.sh (.int i)) => (match a with
    | .v (.sh (.tup xs)) => (atI xs i).map fun d => .v (.sh d)
    | .v (.sh (.cell m)) => (match T[m]? with
      | some xs => (atI xs i).map fun d => .v (.sh d)
      | none => none)
    | a => (match rLs2 a with
      | some xs => (atI xs i).map fun d => .v (.sh d)
      | none => none))
  | _ => none
theorem atI_rep {Γ : Gam} {I : Im} {xs : List D} {vs : List V} {i : Int} {d : D} (r : Reps Γ I xs vs) (h : atI xs i = some d) : ∃ v, atI vs i = some v ∧ Rep Γ I d v := by
  unfold atI at h ⊢
  rw [r.length]
  cases e : ixN xs.length i with
  | none => rw [e] at h; cases h
  | some j =>
    rw [e] at h
    obtain ⟨v, h1, h2⟩ := r.get (n := j) (d := d) h
    exact ⟨v, h1, h2⟩
theorem fIx_ok {Γ : Gam} {n : Nat} {own : Nat → List Addr} {H0 H : Hp} {I : Im} {T : Cs} (w : Wf Γ H I T) {a b c : R} {x y : V} {Q : VK} (e : fIx T a b = some c) (ra : RepR Γ n own H0 H I a x) (rb : RepR Γ n own H0 H I b y)
    (k : ∀ v H' I', Ext O0 H I H' I' → Wf Γ H' I' T → RepR Γ n own H H' I' c v → Q v H') : rIx Γ.K x y H Q := by
  unfold fIx at e
  split at e
  · rename_i i
    rw [rb.unsh.int]
    split at e
    · rename_i xs
      obtain ⟨d, e1, rfl⟩ := Option.map_eq_some_iff.mp e
      obtain ⟨p, vs, rfl, p1, p2⟩ := rTup_ok w rfl ra
      obtain ⟨v, h1, h2⟩ := atI_rep p2 e1
      exact .inr (.inl ⟨p, vs, i, v, rfl, rfl, p1, h1, give_val w h2 k⟩)
    · rename_i m
      split at e
      · rename_i xs e0
        obtain ⟨d, e1, rfl⟩ := Option.map_eq_some_iff.mp e
        have q := ra.unsh
        simp only [Rep] at q
        obtain ⟨p, rfl, q2⟩ := q
        obtain ⟨vs, p1, p2⟩ := w.cells m p xs q2 e0
        obtain ⟨v, h1, h2⟩ := atI_rep p2 e1
        exact .inl ⟨p, vs, i, v, rfl, rfl, SqL.of p1, h1, give_val w h2 k⟩
      · cases e
    · split at e
      · rename_i xs e0
        obtain ⟨d, e1, rfl⟩ := Option.map_eq_some_iff.mp e
        obtain ⟨p, vs, rfl, p1, p2⟩ := rLs2_ok w e0 ra
        obtain ⟨v, h1, h2⟩ := atI_rep p2 e1
        exact .inl ⟨p, vs, i, v, rfl, rfl, p1, h1, give_val w h2 k⟩
      · cases e
  · cases e
def notSlice : Expr → Bool
  | .Slice .. => false
  | _ => true
theorem notSlice_ok {e : Expr} (h : notSlice e = true) : PlainIx e := fun o i => by
  cases e <;> first | rfl | cases h
def cIx (a b : CE) : CE where
  ev := fun ρ T => (a.ev ρ T).bind fun x T1 => (b.ev ρ T1).bind fun y T2 => Ev.opt (fIx T2 x y) T2
  chk := fun k sc e => match e with
    | .Subscript x y _ => notSlice y && (a.chk k sc x && b.chk k sc y)
    | _ => false
  need := fun Γ => a.need Γ ∧ b.need Γ
  z := a.z || b.z
  ok := by
    intro Γ k W sc X e n g nd h hz
    split at h
    · obtain ⟨h0, h⟩ := b2 h
      obtain ⟨h2, h3⟩ := b2 h
      refine PE.mono (pe_ix ix_seq (a.ok g nd.1 h2 (or1 hz).1) (b.ok g nd.2 h3 (or1 hz).2) (notSlice_ok h0)) fun σ H Q q => ?_
      obtain ⟨I, ρ, T, own, w, er, p⟩ := q
      refine ⟨I, ρ, T, own, w, er, (Post.bind (rel := RepR Γ n own) backR p).imp fun x H1 q1 => ?_⟩
      obtain ⟨r, T1, I1, _, x1, w1, r1, p1⟩ := q1
      refine ⟨I1, ρ, T1, own, w1, er.ext x1, (Post.bind (rel := RepR Γ n own) backR p1).imp fun y H2 q2 => ?_⟩
      obtain ⟨r2, T2, I2, _, x2, w2, r2', p2⟩ := q2
      obtain ⟨r3, e3, p3⟩ := Post.opt p2
      rw [g.K]
      exact fIx_ok w2 e3 (r1.ext x2) (r2'.back x1.th) p3
    · cases h
/-- a part of a slice -/
def evP (o : Option CE) : Env → Cs → Ev (Option Int) := match o with
  | none => fun _ T => .ok none T
  | some a => fun ρ T => (a.ev ρ T).bind fun r T1 => match r with
    | .v (.sh (.int i)) => .ok (some i) T1
    | _ => .no
def chkP (o : Option CE) (k : Nat) (sc : Sc) (e : Option Expr) : Bool := match o, e with
  | none, none => true
  | some a, some x => a.chk k sc x
  | _, _ => false
def needP (o : Option CE) (Γ : Gam) : Prop := match o with
  | none => True
  | some a => a.need Γ
def zP (o : Option CE) : Bool := match o with
  | none => false
  | some a => a.z
def relE {α : Type} (_ _ : Hp) (_ : Im) (a b : α) : Prop := b = a
theorem backE {α : Type} : Backs (relE (α := α)) := ⟨fun _ q => q⟩
def tP (Γ : Gam) (n : Nat) (W : WX) (ev : Env → Cs → Ev (Option Int)) : TO := fun σ H Q => ∃ I ρ T own, Wf Γ H I T ∧ ER Γ n σ ρ H I own ∧ Post Γ relE W σ H I (ev ρ T) Q
theorem PO.mono {X : Cx} {e : Option Expr} {t t' : TO} (h : PO X e t) (m : ∀ σ H Q, t' σ H Q → t σ H Q) : PO X e t' := ⟨fun pins s σ H Q I q => h.run pins s σ H Q I (m σ H Q q)⟩
theorem evP_ok {o : Option CE} {Γ : Gam} {k : Nat} {W : WX} {sc : Sc} {X : Cx} {e : Option Expr} {n : Nat} (g : Good Γ k W sc X) (nd : needP o Γ) (h : chkP o k sc e = true) (hz : zP o = true → n = X.s_0.heap.objs.size) : PO X e (tP Γ n W (evP o)) := by
  unfold chkP at h
  split at h
  · exact PO.mono po_none fun σ H Q ⟨I, ρ, T, own, w, er, p⟩ => p.ret Ext.refl w rfl
  · rename_i a x
    refine PO.mono (po_some (a.ok g nd h hz)) fun σ H Q q => ?_
    obtain ⟨I, ρ, T, own, w, er, p⟩ := q
    refine ⟨I, ρ, T, own, w, er, (Post.bind (rel := RepR Γ n own) backE p).imp fun v H1 q1 => ?_⟩
    obtain ⟨r, T1, I1, _, x1, w1, r1, p1⟩ := q1
    split at p1
    · exact ⟨_, r1.unsh.int, p1.ret Ext.refl w1 rfl⟩
    · exact p1.elim
  · cases h
def cutD (xs : List D) (lo hi : Option Int) : List D := (xs.drop (HT.sIx xs.length 0 lo)).take (HT.sIx xs.length xs.length hi - HT.sIx xs.length 0 lo)
theorem cut_rep {Γ : Gam} {I : Im} {xs : List D} {vs : List V} (r : Reps Γ I xs vs) (lo hi : Option Int) : Reps Γ I (cutD xs lo hi) (cutV vs lo hi) := by
  unfold cutD cutV
  rw [r.length]
  exact (r.drop _).take _
def fSl (a : R) (lo hi : Option Int) : Option R := match a with
  | .v (.sh (.tup xs)) => some (.v (.sh (.tup (cutD xs lo hi))))
  | a => (match rLs2 a with
    | some xs => some (rL (cutD xs lo hi))
    | none => none)
def cSlice (a : CE) (lo hi : Option CE) : CE where
  ev := fun ρ T => (a.ev ρ T).bind fun x T1 => (evP lo ρ T1).bind fun l T2 => (evP hi ρ T2).bind fun u T3 => Ev.opt (fSl x l u) T3
  chk := fun k sc e => match e with
    | .Subscript x (.Slice l u none _) _ => a.chk k sc x && (chkP lo k sc l && chkP hi k sc u)
    | _ => false
  need := fun Γ => a.need Γ ∧ needP lo Γ ∧ needP hi Γ
  z := a.z || (zP lo || zP hi)
  ok := by
    intro Γ k W sc X e n g nd h hz
    split at h
    · obtain ⟨h1, h⟩ := b2 h
      obtain ⟨h2, h3⟩ := b2 h
      have z1 := or1 hz
      have z2 := or1 z1.2
      refine PE.mono (pe_slice (SlR.or sl_list sl_tupA) (a.ok g nd.1 h1 z1.1) (evP_ok g nd.2.1 h2 z2.1) (evP_ok g nd.2.2 h3 z2.2)) fun σ H Q q => ?_
      obtain ⟨I, ρ, T, own, w, er, p⟩ := q
      refine ⟨I, ρ, T, own, w, er, (Post.bind (rel := RepR Γ n own) backR p).imp fun x H1 q1 => ?_⟩
      obtain ⟨r, T1, I1, _, x1, w1, r1, p1⟩ := q1
      refine ⟨I1, ρ, T1, own, w1, er.ext x1, (Post.bind (rel := relE) backR p1).imp fun l H2 q2 => ?_⟩
      obtain ⟨l', T2, I2, _, x2, w2, el, p2⟩ := q2
      refine ⟨I2, ρ, T2, own, w2, (er.ext x1).ext x2, (Post.bind (rel := relE) backR p2).imp fun u H3 q3 => ?_⟩
      obtain ⟨u', T3, I3, _, x3, w3, eu, p3⟩ := q3
      have el' : l = l' := el
      have eu' : u = u' := eu
      subst el' eu'
      obtain ⟨c, e3, k3⟩ := Post.opt p3
      have ra := (r1.ext x2).ext x3
      rw [g.K]
      unfold fSl at e3
      split at e3
      · rename_i xs _
        cases e3
        have ra' := ra
        obtain ⟨b, vs, rfl, p1, p2⟩ := rTup_ok w3 rfl ra
        refine .inr ⟨b, vs, rfl, p1, fun hn => ?_, fun _ => give_tup w3 (cut_rep p2 l u) k3⟩
        rw [p2.length] at hn
        have e4 : cutD xs l u = xs := by
          unfold cutD
          rw [hn.1, hn.2, List.drop_zero, Nat.sub_zero, List.take_length]
        rw [e4] at k3
        exact give_val w3 ra'.unsh k3
      · split at e3
        · rename_i xs e0
          cases e3
          obtain ⟨b, vs, rfl, p1, p2⟩ := rLs2_ok w3 e0 ra
          exact .inl ⟨b, vs, rfl, p1, give_list w3 (cut_rep p2 l u) k3⟩
        · cases e3
    · cases h
/-- xs[::-1] -/
def cRev (a : CE) : CE where
  ev := fun ρ T => (a.ev ρ T).bind fun x T1 => Ev.opt ((rLs2 x).map fun xs => rL xs.reverse) T1
  chk := fun k sc e => match e with
    | .Subscript x (.Slice none none (some (.UnaryOp .USub (.Constant (.int j) _ _) _)) _) _ => decide (j = 1) && a.chk k sc x
    | _ => false
  need := a.need
  z := a.z
  ok := by
    intro Γ k W sc X e n g nd h hz
    split at h
    · rename_i j _ _ _ _
      obtain ⟨h1, h2⟩ := b2 h
      have hj := of_decide_eq_true h1
      subst hj
      refine PE.mono (pe_revL (a.ok g nd h2 hz)) fun σ H Q q => ?_
      obtain ⟨I, ρ, T, own, w, er, p⟩ := q
      refine ⟨I, ρ, T, own, w, er, (Post.bind (rel := RepR Γ n own) backR p).imp fun x H1 q1 => ?_⟩
      obtain ⟨r, T1, I1, _, x1, w1, r1, p1⟩ := q1
      obtain ⟨c, e1, k1⟩ := Post.opt p1
      obtain ⟨xs, e2, rfl⟩ := Option.map_eq_some_iff.mp e1
      obtain ⟨b, vs, rfl, p1, p2⟩ := rLs2_ok w1 e2 r1
      rw [g.K]
      exact ⟨b, vs, rfl, p1, give_list w1 p2.rev k1⟩
    · cases h
/-- -a -/
def cNeg (a : CE) : CE where
  ev := fun ρ T => (a.ev ρ T).bind fun x T1 => Ev.opt (match x with
    | .v (.sh (.int i)) => some (rI (-i))
    | _ => none) T1
  chk := fun k sc e => match e with
    | .UnaryOp .USub x _ => a.chk k sc x
    | _ => false
  need := a.need
  z := a.z
  ok := by
    intro Γ k W sc X e n g nd h hz
    split at h
    · refine PE.mono (pe_un un_neg (a.ok g nd h hz)) fun σ H Q q => ?_
      obtain ⟨I, ρ, T, own, w, er, p⟩ := q
      refine ⟨I, ρ, T, own, w, er, (Post.bind (rel := RepR Γ n own) backR p).imp fun x H1 q1 => ?_⟩
      obtain ⟨r, T1, I1, _, x1, w1, r1, p1⟩ := q1
      obtain ⟨c, e1, k1⟩ := Post.opt p1
      split at e1
      · cases e1
        exact ⟨_, r1.unsh.int, give_val w1 .ofInt k1⟩
      · cases e1
    · cases h
/-! ### and, or -/
def andEv : List CT → Env → Cs → Ev Bool
  | [], _, _ => .no
  | [a], ρ, T => a.ev ρ T
  | a :: b :: r, ρ, T => (a.ev ρ T).bind fun k T1 => if k then andEv (b :: r) ρ T1 else .ok false T1
def orEv : List CT → Env → Cs → Ev Bool
  | [], _, _ => .no
  | [a], ρ, T => a.ev ρ T
  | a :: b :: r, ρ, T => (a.ev ρ T).bind fun k T1 => if k then .ok true T1 else orEv (b :: r) ρ T1
def chkTs : List CT → Nat → Sc → List Expr → Bool
  | [], _, _, es => es.isEmpty
  | a :: r, k, sc, es => match es with
    | e :: es => a.chk k sc e && chkTs r k sc es
    | [] => false
def needTs : List CT → Gam → Prop
  | [], _ => True
  | a :: r, Γ => a.need Γ ∧ needTs r Γ
def zTs : List CT → Bool
  | [] => false
  | a :: r => a.z || zTs r
theorem andEv_ok {Γ : Gam} {k : Nat} {W : WX} {sc : Sc} {X : Cx} {n : Nat} {pos : Pos} (g : Good Γ k W sc X) : ∀ {ts : List CT} {es : List Expr}, ts ≠ [] → needTs ts Γ → chkTs ts k sc es = true → (zTs ts = true → n = X.s_0.heap.objs.size) → PW X (.BoolOp .And es pos) (tT Γ n W (andEv ts))
  | [], _, h, _, _, _ => absurd rfl h
  | [a], [], _, _, h, _ => by cases h
  | [a], [e], _, nd, h, hz => by
    have h1 := (b2 h).1
    exact pw_and1 (a.ok g nd.1 h1 (or1 hz).1)
  | [a], e :: e' :: es, _, nd, h, hz => by
    have h1 := (b2 h).2
    cases h1
  | a :: b :: r, [], _, _, h, _ => by cases h
  | a :: b :: r, [e], _, _, h, _ => by
    have h1 := (b2 h).2
    cases h1
  | a :: b :: r, e :: e' :: es, _, nd, h, hz => by
    obtain ⟨h1, h2⟩ := b2 h
    refine PW.mono (pw_and (a.ok g nd.1 h1 (or1 hz).1) (andEv_ok g (by simp) nd.2 h2 (or1 hz).2)) fun σ H Q q => ?_
    obtain ⟨I, ρ, T, own, w, er, p⟩ := q
    refine ⟨I, ρ, T, own, w, er, (Post.bind (rel := relB) backB p).imp fun v H1 q1 => ?_⟩
    obtain ⟨r1, T1, I1, _, x1, w1, e1, p1⟩ := q1
    have e1' : v = r1 := e1
    subst e1'
    cases v with
    | true => exact ⟨I1, ρ, T1, own, w1, er.ext x1, p1⟩
    | false => exact p1.ret Ext.refl w1 rfl
theorem orEv_ok {Γ : Gam} {k : Nat} {W : WX} {sc : Sc} {X : Cx} {n : Nat} {pos : Pos} (g : Good Γ k W sc X) : ∀ {ts : List CT} {es : List Expr}, ts ≠ [] → needTs ts Γ → chkTs ts k sc es = true → (zTs ts = true → n = X.s_0.heap.objs.size) → PW X (.BoolOp .Or es pos) (tT Γ n W (orEv ts))
  | [], _, h, _, _, _ => absurd rfl h
  | [a], [], _, _, h, _ => by cases h
  | [a], [e], _, nd, h, hz => by
    have h1 := (b2 h).1
    exact pw_or1 (a.ok g nd.1 h1 (or1 hz).1)
  | [a], e :: e' :: es, _, nd, h, hz => by
    have h1 := (b2 h).2
    cases h1
  | a :: b :: r, [], _, _, h, _ => by cases h
  | a :: b :: r, [e], _, _, h, _ => by
    have h1 := (b2 h).2
    cases h1
  | a :: b :: r, e :: e' :: es, _, nd, h, hz => by
    obtain ⟨h1, h2⟩ := b2 h
    refine PW.mono (pw_or (a.ok g nd.1 h1 (or1 hz).1) (orEv_ok g (by simp) nd.2 h2 (or1 hz).2)) fun σ H Q q => ?_
    obtain ⟨I, ρ, T, own, w, er, p⟩ := q
    refine ⟨I, ρ, T, own, w, er, (Post.bind (rel := relB) backB p).imp fun v H1 q1 => ?_⟩
    obtain ⟨r1, T1, I1, _, x1, w1, e1, p1⟩ := q1
    have e1' : v = r1 := e1
    subst e1'
    cases v with
    | true => exact p1.ret Ext.refl w1 rfl
    | false => exact ⟨I1, ρ, T1, own, w1, er.ext x1, p1⟩
def tAnd (ts : List CT) : CT where
  ev := andEv ts
  chk := fun k sc e => match e with
    | .BoolOp .And es _ => !ts.isEmpty && chkTs ts k sc es
    | _ => false
  need := needTs ts
  z := zTs ts
  ok := by
    intro Γ k W sc X e n g nd h hz
    split at h
    · obtain ⟨h1, h2⟩ := b2 h
      exact (andEv_ok g (by intro q; rw [q] at h1; cases h1) nd h2 hz).pt
    · cases h
def tOr (ts : List CT) : CT where
  ev := orEv ts
  chk := fun k sc e => match e with
    | .BoolOp .Or es _ => !ts.isEmpty && chkTs ts k sc es
    | _ => false
  need := needTs ts
  z := zTs ts
  ok := by
    intro Γ k W sc X e n g nd h hz
    split at h
    · obtain ⟨h1, h2⟩ := b2 h
      exact (orEv_ok g (by intro q; rw [q] at h1; cases h1) nd h2 hz).pt
    · cases h
/-- a if t else b -/
def cIte (c : CT) (a b : CE) : CE where
  ev := fun ρ T => (c.ev ρ T).bind fun k T1 => if k then a.ev ρ T1 else b.ev ρ T1
  chk := fun k sc e => match e with
    | .IfExp t x y _ => c.chk k sc t && (a.chk k sc x && b.chk k sc y)
    | _ => false
  need := fun Γ => c.need Γ ∧ a.need Γ ∧ b.need Γ
  z := c.z || (a.z || b.z)
  ok := by
    intro Γ k W sc X e n g nd h hz
    split at h
    · obtain ⟨h1, h⟩ := b2 h
      obtain ⟨h2, h3⟩ := b2 h
      have z1 := or1 hz
      have z2 := or1 z1.2
      refine PE.mono (pe_ifExp (c.ok g nd.1 h1 z1.1) (a.ok g nd.2.1 h2 z2.1) (b.ok g nd.2.2 h3 z2.2)) fun σ H Q q => ?_
      obtain ⟨I, ρ, T, own, w, er, p⟩ := q
      refine ⟨I, ρ, T, own, w, er, (Post.bind (rel := relB) backR p).imp fun v H1 q1 => ?_⟩
      obtain ⟨r1, T1, I1, _, x1, w1, e1, p1⟩ := q1
      have e1' : v = r1 := e1
      subst e1'
      cases v with
      | true => exact ⟨I1, ρ, T1, own, w1, er.ext x1, p1⟩
      | false => exact ⟨I1, ρ, T1, own, w1, er.ext x1, p1⟩
    · cases h
/-- and, or as values: all but the last are bools -/
def andVe : List CE → Env → Cs → Ev R
  | [], _, _ => .no
  | [a], ρ, T => a.ev ρ T
  | a :: b :: r, ρ, T => (a.ev ρ T).bind fun x T1 => match rBl x with
    | some true => andVe (b :: r) ρ T1
    | some false => .ok (rB false) T1
    | none => .no
def orVe : List CE → Env → Cs → Ev R
  | [], _, _ => .no
  | [a], ρ, T => a.ev ρ T
  | a :: b :: r, ρ, T => (a.ev ρ T).bind fun x T1 => match rBl x with
    | some true => .ok (rB true) T1
    | some false => orVe (b :: r) ρ T1
    | none => .no
def chkEs : List CE → Nat → Sc → List Expr → Bool
  | [], _, _, es => es.isEmpty
  | a :: r, k, sc, es => match es with
    | e :: es => a.chk k sc e && chkEs r k sc es
    | [] => false
def needEs : List CE → Gam → Prop
  | [], _ => True
  | a :: r, Γ => a.need Γ ∧ needEs r Γ
def zEs : List CE → Bool
  | [] => false
  | a :: r => a.z || zEs r
theorem andVe_ok {Γ : Gam} {k : Nat} {W : WX} {sc : Sc} {X : Cx} {n : Nat} {pos : Pos} (g : Good Γ k W sc X) : ∀ {ts : List CE} {es : List Expr}, ts ≠ [] → needEs ts Γ → chkEs ts k sc es = true → (zEs ts = true → n = X.s_0.heap.objs.size) → PE X (.BoolOp .And es pos) (tE Γ n W (andVe ts))
  | [], _, h, _, _, _ => absurd rfl h
  | [a], [], _, _, h, _ => by cases h
  | [a], [e], _, nd, h, hz => pe_one (a.ok g nd.1 (b2 h).1 (or1 hz).1)
  | [a], e :: e' :: es, _, nd, h, hz => by
    have h1 := (b2 h).2
    cases h1
  | a :: b :: r, [], _, _, h, _ => by cases h
  | a :: b :: r, [e], _, _, h, _ => by
    have h1 := (b2 h).2
    cases h1
  | a :: b :: r, e :: e' :: es, _, nd, h, hz => by
    obtain ⟨h1, h2⟩ := b2 h
    refine PE.mono (pe_and (a.ok g nd.1 h1 (or1 hz).1) (andVe_ok g (by simp) nd.2 h2 (or1 hz).2)) fun σ H Q q => ?_
    obtain ⟨I, ρ, T, own, w, er, p⟩ := q
    refine ⟨I, ρ, T, own, w, er, (Post.bind (rel := RepR Γ n own) backR p).imp fun v H1 q1 => ?_⟩
    obtain ⟨r1, T1, I1, _, x1, w1, e1, p1⟩ := q1
    split at p1
    · rename_i e2
      rw [rBl_ok e2] at e1
      exact ⟨true, e1.unsh.bl, iteT ⟨I1, ρ, T1, own, w1, er.ext x1, p1⟩⟩
    · rename_i e2
      rw [rBl_ok e2] at e1
      exact ⟨false, e1.unsh.bl, iteF (p1.ret Ext.refl w1 (.sh .ofBl))⟩
    · exact p1.elim
theorem orVe_ok {Γ : Gam} {k : Nat} {W : WX} {sc : Sc} {X : Cx} {n : Nat} {pos : Pos} (g : Good Γ k W sc X) : ∀ {ts : List CE} {es : List Expr}, ts ≠ [] → needEs ts Γ → chkEs ts k sc es = true → (zEs ts = true → n = X.s_0.heap.objs.size) → PE X (.BoolOp .Or es pos) (tE Γ n W (orVe ts))
  | [], _, h, _, _, _ => absurd rfl h
  | [a], [], _, _, h, _ => by cases h
  | [a], [e], _, nd, h, hz => pe_one (a.ok g nd.1 (b2 h).1 (or1 hz).1)
  | [a], e :: e' :: es, _, nd, h, hz => by
    have h1 := (b2 h).2
    cases h1
  | a :: b :: r, [], _, _, h, _ => by cases h
  | a :: b :: r, [e], _, _, h, _ => by
    have h1 := (b2 h).2
    cases h1
  | a :: b :: r, e :: e' :: es, _, nd, h, hz => by
    obtain ⟨h1, h2⟩ := b2 h
    refine PE.mono (pe_or (a.ok g nd.1 h1 (or1 hz).1) (orVe_ok g (by simp) nd.2 h2 (or1 hz).2)) fun σ H Q q => ?_
    obtain ⟨I, ρ, T, own, w, er, p⟩ := q
    refine ⟨I, ρ, T, own, w, er, (Post.bind (rel := RepR Γ n own) backR p).imp fun v H1 q1 => ?_⟩
    obtain ⟨r1, T1, I1, _, x1, w1, e1, p1⟩ := q1
    split at p1
    · rename_i e2
      rw [rBl_ok e2] at e1
      exact ⟨true, e1.unsh.bl, iteT (p1.ret Ext.refl w1 (.sh .ofBl))⟩
    · rename_i e2
      rw [rBl_ok e2] at e1
      exact ⟨false, e1.unsh.bl, iteF ⟨I1, ρ, T1, own, w1, er.ext x1, p1⟩⟩
    · exact p1.elim
def cAnd (ts : List CE) : CE where
  ev := andVe ts
  chk := fun k sc e => match e with
    | .BoolOp .And es _ => !ts.isEmpty && chkEs ts k sc es
    | _ => false
  need := needEs ts
  z := zEs ts
  ok := by
    intro Γ k W sc X e n g nd h hz
    split at h
    · obtain ⟨h1, h2⟩ := b2 h
      exact andVe_ok g (by intro q; rw [q] at h1; cases h1) nd h2 hz
    · cases h
def cOr (ts : List CE) : CE where
  ev := orVe ts
  chk := fun k sc e => match e with
    | .BoolOp .Or es _ => !ts.isEmpty && chkEs ts k sc es
    | _ => false
  need := needEs ts
  z := zEs ts
  ok := by
    intro Γ k W sc X e n g nd h hz
    split at h
    · obtain ⟨h1, h2⟩ := b2 h
      exact orVe_ok g (by intro q; rw [q] at h1; cases h1) nd h2 hz
    · cases h
/-- not a, as a value -/
def cNot (a : CE) : CE where
  ev := fun ρ T => (a.ev ρ T).bind fun x T1 => Ev.opt ((rBl x).map fun k => rB (!k)) T1
  chk := fun k sc e => match e with
    | .UnaryOp .Not x _ => a.chk k sc x
    | _ => false
  need := a.need
  z := a.z
  ok := by
    intro Γ k W sc X e n g nd h hz
    split at h
    · refine PE.mono (pe_not (a.ok g nd h hz)) fun σ H Q q => ?_
      obtain ⟨I, ρ, T, own, w, er, p⟩ := q
      refine ⟨I, ρ, T, own, w, er, (Post.bind (rel := RepR Γ n own) backR p).imp fun x H1 q1 => ?_⟩
      obtain ⟨r, T1, I1, _, x1, w1, r1, p1⟩ := q1
      obtain ⟨c, e1, k1⟩ := Post.opt p1
      obtain ⟨b, e2, rfl⟩ := Option.map_eq_some_iff.mp e1
      rw [rBl_ok e2] at r1
      exact ⟨b, r1.unsh.bl, give_val w1 .ofBl k1⟩
    · cases h
end Tp
end
section
set_option Elab.async false
set_option linter.all false
set_option maxRecDepth 100000
set_option maxHeartbeats 2000000
/-! TpG: calls of built-ins, in, isinstance. -/
namespace Tp
open PySem PySem.Spec PyProof.Rows L2

def noStars : List Expr → Bool
  | [] => true
  | e :: es => notStar e && noStars es
theorem noStars_ok : ∀ {es : List Expr} {env : PySem.Env}, noStars es = true → starEach es env = es.map fun x => (false, eval x env)
  | [], _, _ => rfl
  | e :: es, env, h => by
    obtain ⟨h1, h2⟩ := b2 h
    rw [star_cons h1, noStars_ok h2]; rfl
theorem noStars_back {es : List Expr} {env : PySem.Env} {pos : Pos} (h : noStars es = true) : (backTo pos (starEach es env)).any (·.1) = false := by
  rw [noStars_ok h]
  unfold backTo
  rw [List.map_map, List.any_map]
  induction es with
  | nil => rfl
  | cons e es ih =>
    simp only [List.any_cons, Function.comp]
    exact ih (b2 h).2
theorem rdN_one {Γ : Gam} {n : Nat} {f : List R → Option R} {r : List V → Hp → VK → Prop} (h1 : ∀ rs c, f rs = some c → ∃ a, rs = [a]) (h : ∀ (H : Hp) (I : Im) (T : Cs) (own : Nat → List Addr) (Hs : Hp) (a c : R) (x : V) (Q : VK), Wf Γ H I T → RepR Γ n own Hs H I a x → f [a] = some c →
    (∀ v H' I', Ext O0 H I H' I' → Wf Γ H' I' T → RepR Γ n own H H' I' c v → Q v H') → r [x] H Q) : ∀ vs H Q, rdN Γ n f vs H Q → r vs H Q := fun vs H Q q => by
  obtain ⟨I, T, own, Hs, rs, c, w, rr, e, k⟩ := q
  obtain ⟨a, rfl⟩ := h1 rs c e
  obtain ⟨x, us, e1, ra, e2⟩ := rr
  rw [e2] at e1
  rw [e1]
  exact h H I T own Hs a c x Q w ra e k
theorem rdN_two {Γ : Gam} {n : Nat} {f : List R → Option R} {r : List V → Hp → VK → Prop} (h1 : ∀ rs c, f rs = some c → ∃ a b, rs = [a, b]) (h : ∀ (H : Hp) (I : Im) (T : Cs) (own : Nat → List Addr) (Hs : Hp) (a b c : R) (x y : V) (Q : VK), Wf Γ H I T → RepR Γ n own Hs H I a x → RepR Γ n own Hs H I b y → f [a, b] = some c →
    (∀ v H' I', Ext O0 H I H' I' → Wf Γ H' I' T → RepR Γ n own H H' I' c v → Q v H') → r [x, y] H Q) : ∀ vs H Q, rdN Γ n f vs H Q → r vs H Q := fun vs H Q q => by
  obtain ⟨I, T, own, Hs, rs, c, w, rr, e, k⟩ := q
  obtain ⟨a, b, rfl⟩ := h1 rs c e
  obtain ⟨x, us, e1, ra, y, us2, e3, rb, e2⟩ := rr
  rw [e3, e2] at e1
  rw [e1]
  exact h H I T own Hs a b c x y Q w ra rb e k
/-- a built-in function of values -/
structure Blt where
  nm : Str
  val : Value
  f : List R → Option R
  need : Gam → Prop
  ok : ∀ {Γ : Gam} {k : Nat} {W : WX} {sc : Sc} {X : Cx} {n : Nat} {p pos : Pos} {e : Expr} {es : List Expr} {t : TA}, Good Γ k W sc X → need Γ → Gl X nm → X.mg nm = none → PA X (e :: es) t → noStars (e :: es) = true → okName nm = true →
    PE X (.Call (.Name nm p) (e :: es) [] pos) (tCB (rdN Γ n f) t)
def cBlt (b : Blt) (a : CA) : CE where
  ev := fun ρ T => (a.ev ρ T).bind fun rs T1 => Ev.opt (b.f rs) T1
  chk := fun k sc e => match e with
    | .Call (.Name x _) (e :: es) [] _ => decide (x = b.nm) && (isGl sc.nm x && (okName x && (noStars (e :: es) && a.chk k sc (e :: es))))
    | _ => false
  need := fun Γ => b.need Γ ∧ Γ.mg b.nm = none ∧ a.need Γ
  z := a.z
  ok := by
    intro Γ k W sc X e n g nd h hz
    split at h
    · rename_i x p e es pos
      obtain ⟨h1, h⟩ := b2 h
      obtain ⟨h2, h⟩ := b2 h
      obtain ⟨h3, h⟩ := b2 h
      obtain ⟨h4, h5⟩ := b2 h
      have e1 := of_decide_eq_true h1
      subst e1
      refine PE.mono (b.ok (n := n) g nd.1 (isGl_ok g.nm h2) (by rw [g.mg]; exact nd.2.1) (a.ok g nd.2.2 h5 hz) h4 h3) fun σ H Q q => ?_
      obtain ⟨I, ρ, T, own, w, er, p⟩ := q
      refine ⟨I, ρ, T, own, w, er, (Post.step (rel := RepRs Γ n own) p Ext.refl).imp fun xs H1 q1 => ?_⟩
      obtain ⟨rs, T1, I1, _, x1, w1, r1, p1⟩ := q1
      obtain ⟨c, e3, k3⟩ := Post.opt p1
      exact ⟨I1, T1, own, H, rs, c, w1, r1, e3, fun v H' I' a b c => k3 v H' I' (x1.tr0 a) b (c.back x1.th)⟩
    · cases h
/-- by its rule -/
def bltF (nm : Str) (id : String) (f : List R → Option R) (hb : bootBuiltins nm = some (.builtin id)) (snd : ∀ {Γ : Gam} {k : Nat} {W : WX} {sc : Sc} {X : Cx} {n : Nat}, Good Γ k W sc X → CallR X (.builtin id) (rdN Γ n f)) : Blt where
  nm := nm
  val := .builtin id
  f := f
  need := fun _ => True
  ok := fun {Γ k W sc X n p pos e es t} g _ hg hm ha hs hn => by
    obtain ⟨d1, _, d3⟩ := okName_d hn
    exact pe_callB (snd g) hg hm hb ha d3 d1 (star_cons (b2 hs).1) (noStars_back (b2 hs).2)
def bltT (nm : Str) (T : String) (f : List R → Option R) (hb : bootBuiltins nm = some (.type T)) (snd : ∀ {Γ : Gam} {k : Nat} {W : WX} {sc : Sc} {X : Cx} {n : Nat}, Good Γ k W sc X → CallR X (.type T) (rdN Γ n f)) : Blt where
  nm := nm
  val := .type T
  f := f
  need := fun _ => True
  ok := fun {Γ k W sc X n p pos e es t} g _ hg hm ha hs hn => by
    obtain ⟨d1, _, d3⟩ := okName_d hn
    exact pe_callTy (snd g) hg hm hb ha d3 d1 (star_cons (b2 hs).1) (noStars_back (b2 hs).2)
def f1 (g : R → Option R) (rs : List R) : Option R := match rs with
  | [a] => g a
  | _ => none
def f2 (g : R → R → Option R) (rs : List R) : Option R := match rs with
  | [a, b] => g a b
  | _ => none
theorem f1_one {g : R → Option R} {rs : List R} {c : R} (h : f1 g rs = some c) : ∃ a, rs = [a] := by
  unfold f1 at h
  split at h
  · exact ⟨_, rfl⟩
  · cases h
theorem f2_two {g : R → R → Option R} {rs : List R} {c : R} (h : f2 g rs = some c) : ∃ a b, rs = [a, b] := by
  unfold f2 at h
  split at h
  · exact ⟨_, _, rfl⟩
  · cases h
def gLen (a : R) : Option R := match a with
  | .v (.sh (.tup xs)) => some (rI xs.length)
  | .v (.sh (.str s)) => if s.length ≤ lim then some (rI s.length) else none
  | a => match rLs2 a with
    | some xs => some (rI xs.length)
    | none => none
def bLen : Blt := bltF "len" "len" (f1 gLen) PySem.boot_len fun {Γ k W sc X n} g => by
  refine CallR.mono (CallR.or call_len_seq call_len_str) (rdN_one (fun _ _ => f1_one) fun H I T own Hs a c x Q w ra e q => ?_)
  have e1 : gLen a = some c := e
  unfold gLen at e1
  split at e1
  · rename_i xs
    cases e1
    obtain ⟨p, vs, rfl, p1, p2⟩ := rTup_ok w rfl ra
    exact .inl ⟨p, vs, rfl, .inr (by rw [g.K]; exact p1), by rw [p2.length]; exact give_val w .ofInt q⟩
  · split at e1
    · rename_i hl
      cases e1
      rw [ra.unsh.str]
      exact .inr ⟨_, rfl, Nat.le_trans hl lim_le, give_val w .ofInt q⟩
    · cases e1
  · split at e1
    · rename_i xs e0
      cases e1
      obtain ⟨p, vs, rfl, p1, p2⟩ := rLs2_ok w e0 ra
      exact .inl ⟨p, vs, rfl, .inl (by rw [g.K]; exact p1), by rw [p2.length]; exact give_val w .ofInt q⟩
    · cases e1
def gAbs (a : R) : Option R := match a with
  | .v (.sh (.int i)) => some (rI (if i < 0 then -i else i))
  | _ => none
def bAbs : Blt := bltF "abs" "abs" (f1 gAbs) PyProof.Rows.boot_abs fun {Γ k W sc X n} g => by
  refine CallR.mono call_abs (rdN_one (fun _ _ => f1_one) fun H I T own Hs a c x Q w ra e q => ?_)
  have e1 : gAbs a = some c := e
  unfold gAbs at e1
  split at e1
  · rename_i i
    cases e1
    rw [ra.unsh.int]
    exact ⟨i, rfl, give_val w .ofInt q⟩
  · cases e1
def gMax (a b : R) : Option R := match a, b with
  | .v (.sh (.int i)), .v (.sh (.int j)) => some (rI (if j > i then j else i))
  | _, _ => none
def gMin (a b : R) : Option R := match a, b with
  | .v (.sh (.int i)), .v (.sh (.int j)) => some (rI (if j < i then j else i))
  | _, _ => none
def bMax2 : Blt := bltF "max" "max" (f2 gMax) PyProof.Rows.boot_max fun {Γ k W sc X n} g => by
  refine CallR.mono (call_max2 g.calm) (rdN_two (fun _ _ => f2_two) fun H I T own Hs a b c x y Q w ra rb e q => ?_)
  have e1 : gMax a b = some c := e
  unfold gMax at e1
  split at e1
  · rename_i i j
    cases e1
    rw [ra.unsh.int, rb.unsh.int]
    exact ⟨i, j, rfl, give_val w .ofInt q⟩
  · cases e1
def bMin2 : Blt := bltF "min" "min" (f2 gMin) PyProof.Rows.boot_min fun {Γ k W sc X n} g => by
  refine CallR.mono (call_min2 g.calm) (rdN_two (fun _ _ => f2_two) fun H I T own Hs a b c x y Q w ra rb e q => ?_)
  have e1 : gMin a b = some c := e
  unfold gMin at e1
  split at e1
  · rename_i i j
    cases e1
    rw [ra.unsh.int, rb.unsh.int]
    exact ⟨i, j, rfl, give_val w .ofInt q⟩
  · cases e1
def gInt (a : R) : Option R := match a with
  | .v (.sh (.int i)) => some (rI i)
  | .v (.sh (.bl b)) => some (rI (if b then 1 else 0))
  | _ => none
def bInt : Blt := bltT "int" "int" (f1 gInt) PyProof.Rows.boot_int fun {Γ k W sc X n} g => by
  refine CallR.mono call_int1 (rdN_one (fun _ _ => f1_one) fun H I T own Hs a c x Q w ra e q => ?_)
  have e1 : gInt a = some c := e
  unfold gInt at e1
  split at e1
  · rename_i i
    cases e1
    rw [ra.unsh.int]
    exact .inl ⟨i, rfl, give_val w .ofInt q⟩
  · rename_i i
    cases e1
    rw [ra.unsh.bl]
    exact .inr ⟨i, rfl, give_val w .ofInt q⟩
  · cases e1
/-- list(xs), list(t) -/
def gList (a : R) : Option R := match rTup a with
  | some xs => some (rL xs)
  | none => match rLs2 a with
    | some xs => some (rL xs)
    | none => none
def bList : Blt := bltT "list" "list" (f1 gList) PyProof.Rows.boot_list fun {Γ k W sc X n} g => by
  refine CallR.mono call_list_of (rdN_one (fun _ _ => f1_one) fun H I T own Hs a c x Q w ra e q => ?_)
  have e1 : gList a = some c := e
  unfold gList at e1
  split at e1
  · rename_i xs e0
    cases e1
    obtain ⟨p, vs, rfl, p1, p2⟩ := rTup_ok w e0 ra
    exact ⟨p, vs, rfl, .inr (by rw [g.K]; exact p1), give_list w p2 q⟩
  · split at e1
    · rename_i xs e0
      cases e1
      obtain ⟨p, vs, rfl, p1, p2⟩ := rLs2_ok w e0 ra
      exact ⟨p, vs, rfl, .inl (by rw [g.K]; exact p1), give_list w p2 q⟩
    · cases e1
def gTuple (a : R) : Option R := match rTup a with
  | some xs => some (.v (.sh (.tup xs)))
  | none => match rLs2 a with
    | some xs => some (.v (.sh (.tup xs)))
    | none => none
def bTuple : Blt := bltT "tuple" "tuple" (f1 gTuple) PyProof.Rows.boot_tuple fun {Γ k W sc X n} g => by
  refine CallR.mono call_tuple_of (rdN_one (fun _ _ => f1_one) fun H I T own Hs a c x Q w ra e q => ?_)
  have e1 : gTuple a = some c := e
  unfold gTuple at e1
  split at e1
  · rename_i xs e0
    cases e1
    have ra' := ra
    unfold rTup at e0
    split at e0
    · cases e0
      obtain ⟨p, vs, rfl, p1, p2⟩ := rTup_ok w rfl ra
      exact ⟨p, vs, rfl, .inr ⟨by rw [g.K]; exact p1, give_val w ra'.unsh q⟩⟩
    · cases e0
  · split at e1
    · rename_i xs e0
      cases e1
      obtain ⟨p, vs, rfl, p1, p2⟩ := rLs2_ok w e0 ra
      exact ⟨p, vs, rfl, .inl ⟨by rw [g.K]; exact p1, give_tup w p2 q⟩⟩
    · cases e1
/-- the ints, the bools of a list -/
def intsOf : List D → Option (List Int)
  | [] => some []
  | .int i :: r => (intsOf r).map fun l => i :: l
  | _ => none
theorem intsOf_ok : ∀ {ds : List D} {ns : List Int}, intsOf ds = some ns → ds = ns.map D.int
  | [], ns, h => by cases h; rfl
  | .int i :: r, ns, h => by
    obtain ⟨l, h1, rfl⟩ := Option.map_eq_some_iff.mp (show (intsOf r).map (fun l => i :: l) = some ns from h)
    rw [intsOf_ok h1]; rfl
  | .non :: _, _, h => by cases h
  | .bl _ :: _, _, h => by cases h
  | .str _ :: _, _, h => by cases h
  | .lst _ :: _, _, h => by cases h
  | .fz _ :: _, _, h => by cases h
  | .tup _ :: _, _, h => by cases h
  | .dct _ :: _, _, h => by cases h
  | .obj _ _ :: _, _, h => by cases h
  | .cell _ :: _, _, h => by cases h
def blsOf : List D → Option (List Bool)
  | [] => some []
  | .bl i :: r => (blsOf r).map fun l => i :: l
  | _ => none
theorem blsOf_ok : ∀ {ds : List D} {ns : List Bool}, blsOf ds = some ns → ds = ns.map D.bl
  | [], ns, h => by cases h; rfl
  | .bl i :: r, ns, h => by
    obtain ⟨l, h1, rfl⟩ := Option.map_eq_some_iff.mp (show (blsOf r).map (fun l => i :: l) = some ns from h)
    rw [blsOf_ok h1]; rfl
  | .non :: _, _, h => by cases h
  | .int _ :: _, _, h => by cases h
  | .str _ :: _, _, h => by cases h
  | .lst _ :: _, _, h => by cases h
  | .fz _ :: _, _, h => by cases h
  | .tup _ :: _, _, h => by cases h
  | .dct _ :: _, _, h => by cases h
  | .obj _ _ :: _, _, h => by cases h
  | .cell _ :: _, _, h => by cases h
theorem Reps.bls {Γ : Gam} {I : Im} : ∀ {ns : List Bool} {vs : List V}, Reps Γ I (ns.map D.bl) vs → vs = ns.map V.bl
  | [], _, h => by simpa [Reps] using h
  | n :: ns, _, h => by
    simp only [List.map_cons, Reps] at h
    obtain ⟨v, r, rfl, h2, h3⟩ := h
    rw [Rep.bl h2, Reps.bls h3, List.map_cons]
def gSum (a : R) : Option R := match rLs2 a with
  | some xs => (intsOf xs).map fun ns => rI ns.sum
  | none => none
def bSum : Blt := bltF "sum" "sum" (f1 gSum) PyProof.Rows.boot_sum fun {Γ k W sc X n} g => by
  refine CallR.mono (cr_sum g.calm) (rdN_one (fun _ _ => f1_one) fun H I T own Hs a c x Q w ra e q => ?_)
  have e1 : gSum a = some c := e
  unfold gSum at e1
  split at e1
  · rename_i xs e0
    obtain ⟨ns, e2, rfl⟩ := Option.map_eq_some_iff.mp e1
    obtain ⟨p, vs, rfl, p1, p2⟩ := rLs2_ok w e0 ra
    rw [intsOf_ok e2] at p2
    rw [p2.ints] at p1
    exact ⟨p, ns, rfl, by rw [g.K]; exact p1, give_val w .ofInt q⟩
  · cases e1
def gAll (a : R) : Option R := match rLs2 a with
  | some xs => (blsOf xs).map fun ns => rB (ns.all id)
  | none => none
def gAny (a : R) : Option R := match rLs2 a with
  | some xs => (blsOf xs).map fun ns => rB (ns.any id)
  | none => none
def bAll : Blt := bltF "all" "all" (f1 gAll) PyProof.Rows.boot_all fun {Γ k W sc X n} g => by
  refine CallR.mono (cr_all g.calm) (rdN_one (fun _ _ => f1_one) fun H I T own Hs a c x Q w ra e q => ?_)
  have e1 : gAll a = some c := e
  unfold gAll at e1
  split at e1
  · rename_i xs e0
    obtain ⟨ns, e2, rfl⟩ := Option.map_eq_some_iff.mp e1
    obtain ⟨p, vs, rfl, p1, p2⟩ := rLs2_ok w e0 ra
    rw [blsOf_ok e2] at p2
    rw [p2.bls] at p1
    exact ⟨p, ns, rfl, by rw [g.K]; exact p1, give_val w .ofBl q⟩
  · cases e1
def bAny : Blt := bltF "any" "any" (f1 gAny) PyProof.Rows.boot_any fun {Γ k W sc X n} g => by
  refine CallR.mono (cr_any g.calm) (rdN_one (fun _ _ => f1_one) fun H I T own Hs a c x Q w ra e q => ?_)
  have e1 : gAny a = some c := e
  unfold gAny at e1
  split at e1
  · rename_i xs e0
    obtain ⟨ns, e2, rfl⟩ := Option.map_eq_some_iff.mp e1
    obtain ⟨p, vs, rfl, p1, p2⟩ := rLs2_ok w e0 ra
    rw [blsOf_ok e2] at p2
    rw [p2.bls] at p1
    exact ⟨p, ns, rfl, by rw [g.K]; exact p1, give_val w .ofBl q⟩
  · cases e1
def gDivmod (a b : R) : Option R := match a, b with
  | .v (.sh (.int i)), .v (.sh (.int j)) => if 0 < j ∧ j < 1073741824 then some (.v (.sh (.tup [.int (i / j), .int (i % j)]))) else none
  | _, _ => none
def bDivmod : Blt := bltF "divmod" "divmod" (f2 gDivmod) PyProof.Rows.boot_divmod fun {Γ k W sc X n} g => by
  refine CallR.mono call_divmod (rdN_two (fun _ _ => f2_two) fun H I T own Hs a b c x y Q w ra rb e q => ?_)
  have e1 : gDivmod a b = some c := e
  unfold gDivmod at e1
  split at e1
  · rename_i i j
    split at e1
    · rename_i hl
      cases e1
      rw [ra.unsh.int, rb.unsh.int]
      exact ⟨i, j, rfl, hl, give_tup w (Reps.cons .ofInt (Reps.cons .ofInt Reps.nil)) q⟩
    · cases e1
  · cases e1

/-! ### in -/
def flatD : D → Bool
  | .non => true
  | .bl _ => true
  | .int _ => true
  | .str _ => true
  | _ => false
def eqFl : D → D → Bool
  | .non, .non => true
  | .bl a, .bl b => a == b
  | .bl a, .int b => (if a then 1 else 0) == b
  | .int a, .bl b => a == (if b then 1 else 0)
  | .int a, .int b => a == b
  | .str a, .str b => a == b
  | _, _ => false
theorem flat_rep {Γ : Gam} {I : Im} {d : D} {v : V} (h : Rep Γ I d v) (f : flatD d = true) : flatV v = true := by
  cases d with
  | non => rw [h.non]; rfl
  | bl b => rw [h.bl]; rfl
  | int b => rw [h.int]; rfl
  | str b => rw [h.str]; rfl
  | _ => cases f
theorem eqFl_rep {Γ : Gam} {I : Im} {d e : D} {v u : V} (h : Rep Γ I d v) (q : Rep Γ I e u) (f : flatD d = true) (f' : flatD e = true) : eqV v u = eqFl d e := by
  cases d with
  | non => rw [h.non]; cases e with
    | non => rw [q.non]; rfl
    | bl b => rw [q.bl]; rfl
    | int b => rw [q.int]; rfl
    | str b => rw [q.str]; rfl
    | _ => cases f'
  | bl b => rw [h.bl]; cases e with
    | non => rw [q.non]; rfl
    | bl b => rw [q.bl]; rfl
    | int b => rw [q.int]; rfl
    | str b => rw [q.str]; rfl
    | _ => cases f'
  | int b => rw [h.int]; cases e with
    | non => rw [q.non]; rfl
    | bl b => rw [q.bl]; rfl
    | int b => rw [q.int]; rfl
    | str b => rw [q.str]; rfl
    | _ => cases f'
  | str b => rw [h.str]; cases e with
    | non => rw [q.non]; rfl
    | bl b => rw [q.bl]; rfl
    | int b => rw [q.int]; rfl
    | str b => rw [q.str]; rfl
    | _ => cases f'
  | _ => cases f
theorem flats_rep {Γ : Gam} {I : Im} : ∀ {ds : List D} {vs : List V}, Reps Γ I ds vs → ds.all flatD = true → vs.all flatV = true
  | [], _, h, _ => by simp only [Reps] at h; subst h; rfl
  | d :: ds, _, h, f => by
    simp only [Reps] at h
    obtain ⟨v, r, rfl, h2, h3⟩ := h
    rw [List.all_cons] at f ⊢
    obtain ⟨f1, f2⟩ := b2 f
    rw [flat_rep h2 f1, flats_rep h3 f2]; rfl
theorem inV_rep {Γ : Gam} {I : Im} {x : D} {u : V} (hx : Rep Γ I x u) (fx : flatD x = true) : ∀ {ds : List D} {vs : List V}, Reps Γ I ds vs → ds.all flatD = true → inV u vs = ds.any fun y => eqFl y x
  | [], _, h, _ => by simp only [Reps] at h; subst h; rfl
  | d :: ds, _, h, f => by
    simp only [Reps] at h
    obtain ⟨v, r, rfl, h2, h3⟩ := h
    rw [List.all_cons] at f
    obtain ⟨f1, f2⟩ := b2 f
    have ih := inV_rep hx fx h3 f2
    unfold inV at ih ⊢
    rw [List.any_cons, List.any_cons, ih, eqFl_rep h2 hx f1 fx]
def seqOf (a : R) : Option (List D) := match rTup a with
  | some xs => some xs
  | none => rLs2 a
def inR (a b : R) : Option Bool := match a with
  | .v (.sh d) => (match seqOf b with
    | some xs => if flatD d && xs.all flatD then some (xs.any fun y => eqFl y d) else none
    | none => none)
  | _ => none
theorem inR_ok {Γ : Gam} {n : Nat} {own : Nat → List Addr} {Hs H : Hp} {I : Im} {T : Cs} (w : Wf Γ H I T) {a b : R} {k : Bool} {x y : V} (h : inR a b = some k) (ra : RepR Γ n own Hs H I a x) (rb : RepR Γ n own Hs H I b y) :
    ∃ p xs, y = .ref p ∧ (SqL Γ.K H p xs ∨ SqT Γ.K H p xs) ∧ flatV x = true ∧ xs.all flatV = true ∧ k = inV x xs := by
  unfold inR at h
  split at h
  · rename_i d
    split at h
    · rename_i xs e0
      split at h
      · rename_i hf
        cases h
        obtain ⟨f1, f2⟩ := b2 hf
        unfold seqOf at e0
        split at e0
        · rename_i ys e2
          cases e0
          obtain ⟨p, vs, rfl, p1, p2⟩ := rTup_ok w e2 rb
          exact ⟨p, vs, rfl, .inr p1, flat_rep ra.unsh f1, flats_rep p2 f2, (inV_rep ra.unsh f1 p2 f2).symm⟩
        · obtain ⟨p, vs, rfl, p1, p2⟩ := rLs2_ok w e0 rb
          exact ⟨p, vs, rfl, .inl p1, flat_rep ra.unsh f1, flats_rep p2 f2, (inV_rep ra.unsh f1 p2 f2).symm⟩
      · cases h
    · cases h
  · cases h
def oIn : Cp2 where
  op := .In
  f := f2 fun a b => (inR a b).map rB
  snd := fun {Γ k W sc X n} g => by
    refine OpR.mono op_in_seq (rd2_mk fun H I T own Hs a b c x y Q w ra rb e q => ?_)
    obtain ⟨z, e1, rfl⟩ := Option.map_eq_some_iff.mp (show (inR a b).map rB = some c from e)
    obtain ⟨p, xs, h1, h2, h3, h4, rfl⟩ := inR_ok w e1 ra rb
    exact ⟨p, xs, h1, by rw [g.K]; exact h2, h3, h4, by rw [if_neg Bool.false_ne_true]; exact give_val w .ofBl q⟩
def oNotIn : Cp2 where
  op := .NotIn
  f := f2 fun a b => (inR a b).map fun k => rB (!k)
  snd := fun {Γ k W sc X n} g => by
    refine OpR.mono op_notIn_seq (rd2_mk fun H I T own Hs a b c x y Q w ra rb e q => ?_)
    obtain ⟨z, e1, rfl⟩ := Option.map_eq_some_iff.mp (show (inR a b).map (fun k => rB (!k)) = some c from e)
    obtain ⟨p, xs, h1, h2, h3, h4, rfl⟩ := inR_ok w e1 ra rb
    exact ⟨p, xs, h1, by rw [g.K]; exact h2, h3, h4, by rw [if_pos rfl]; exact give_val w .ofBl q⟩
end Tp
end
section
set_option Elab.async false
set_option linter.all false
set_option maxRecDepth 100000
set_option maxHeartbeats 2000000
/-! TpH: statements. -/
namespace Tp
open PySem PySem.Spec PyProof.Rows L2

section
variable {Γ : Gam} {n : Nat} {W : WX}
/-- what is wanted of statements that began at H, I, owning O -/
def PostS (Γ : Gam) (n : Nat) (W : WX) (D' : Ends) (O : Addr → Prop) (H : Hp) (I : Im) (res : Ev Fl) : Prop := match res with
  | .no => False
  | .ok f T' => FlP Γ n D' O H I T' f
  | .ex e T' => XS Γ W O H I e T'
theorem tS_iff {ev : Env → Cs → Ev Fl} {D' : Ends} {σ : L2.St} {H : Hp} : tS Γ n W ev D' σ H ↔ ∃ I ρ T own, Wf Γ H I T ∧ ER Γ n σ ρ H I own ∧ PostS Γ n W D' (Ow own) H I (ev ρ T) := Iff.rfl
variable {O O1 : Addr → Prop} {H H1 H2 : Hp} {I I1 I2 : Im} {T T1 : Cs}
theorem Aft.trans {ρ1 ρ2 : Env} {σ1 σ2 : L2.St} {own1 own2 : Nat → List Addr} (a : Aft Γ n O H I T1 ρ1 σ1 H1 I1 own1) (b : Aft Γ n (Ow own1) H1 I1 T ρ2 σ2 H2 I2 own2) : Aft Γ n O H I T ρ2 σ2 H2 I2 own2 :=
  ⟨a.ext.trans b.ext (fun _ h => h) a.ow, b.wf, b.er, fun x h => by
    rcases b.ow x h with q | q
    · exact a.ow x q
    · refine .inr ?_
      cases e : H x with
      | none => rfl
      | some o => exact absurd q (a.ext.th x (by rw [e]; simp))⟩
/-- seen from further ahead; the slots that own may be fewer -/
theorem FlP.from {D' : Ends} {own1 : Nat → List Addr} (x : Ext O H I H1 I1) (hO : ∀ a, Ow own1 a → O a ∨ H a = none) : ∀ {f : Fl}, FlP Γ n D' O H I T f → FlP Γ n D' (Ow own1) H1 I1 T f
  | .nx ρ, h => fun σ' H' I' own' a => h σ' H' I' own' ⟨x.trans a.ext (fun _ h => h) hO, a.wf, a.er, fun y q => by
    rcases a.ow y q with z | z
    · exact hO y z
    · refine .inr ?_
      cases e : H y with
      | none => rfl
      | some o => exact absurd z (x.th y (by rw [e]; simp))⟩
  | .bk ρ, h => fun σ' H' I' own' a => h σ' H' I' own' ⟨x.trans a.ext (fun _ h => h) hO, a.wf, a.er, fun y q => by
    rcases a.ow y q with z | z
    · exact hO y z
    · refine .inr ?_
      cases e : H y with
      | none => rfl
      | some o => exact absurd z (x.th y (by rw [e]; simp))⟩
  | .ct ρ, h => fun σ' H' I' own' a => h σ' H' I' own' ⟨x.trans a.ext (fun _ h => h) hO, a.wf, a.er, fun y q => by
    rcases a.ow y q with z | z
    · exact hO y z
    · refine .inr ?_
      cases e : H y with
      | none => rfl
      | some o => exact absurd z (x.th y (by rw [e]; simp))⟩
  | .rt lv, h => fun v H' I' as a w r q => h v H' I' as (x.trans a (fun _ h => h) hO) w r fun y hy => by
    obtain ⟨q1, q2, q3, q4⟩ := q y hy
    refine ⟨q1, q2, q3, ?_⟩
    rcases q4 with z | z
    · exact hO y z
    · refine .inr ?_
      cases e : H y with
      | none => rfl
      | some o => exact absurd z (x.th y (by rw [e]; simp))
theorem XS.from {own1 : Nat → List Addr} {e : ExD} (x : Ext O H I H1 I1) (hO : ∀ a, Ow own1 a → O a ∨ H a = none) (h : XS Γ W O H I e T) : XS Γ W (Ow own1) H1 I1 e T :=
  fun cls d σ' H' I' a b c => h cls d σ' H' I' (x.trans a (fun _ h => h) hO) b c
theorem PostS.from {D' : Ends} {own1 : Nat → List Addr} (x : Ext O H I H1 I1) (hO : ∀ a, Ow own1 a → O a ∨ H a = none) {res : Ev Fl} (h : PostS Γ n W D' O H I res) : PostS Γ n W D' (Ow own1) H1 I1 res := by
  cases res with
  | no => exact h
  | ok f T => exact FlP.from x hO h
  | ex e T => exact XS.from x hO h
/-- a piece ahead of what is wanted of a statement -/
theorem PostS.step {α β : Type} {rel : Hp → Hp → Im → α → β → Prop} {x : Ev α} {f : α → Cs → Ev Fl} {D' : Ends} {σ : L2.St} (h : PostS Γ n W D' O H I (x.bind f)) (a : Ext O0 H I H1 I1) :
    Post Γ rel W σ H1 I1 x fun v H2 => ∃ r T2 I2, x = .ok r T2 ∧ Ext O0 H1 I1 H2 I2 ∧ Wf Γ H2 I2 T2 ∧ rel H1 H2 I2 r v ∧ PostS Γ n W D' O H I (f r T2) := by
  cases x with
  | no => exact h
  | ok r T => exact fun v H' I' a b c => ⟨r, T, I', rfl, a, b, c, h⟩
  | ex e T => exact fun cls d H' I' b c z => h cls d σ H' I' ((a.tr0 b).mono fun _ q => q.elim) c z
end
/-- one statement -/
structure C1 where
  ev : Env → Cs → Ev Fl
  chk : Nat → Sc → Stmt → Bool
  need : Gam → Prop
  ok : ∀ {Γ : Gam} {k : Nat} {W : WX} {sc : Sc} {X : Cx} {st : Stmt}, Good Γ k W sc X → need Γ → chk k sc st = true → PS X st (tS Γ X.s_0.heap.objs.size W ev)
/-- a block -/
structure CS where
  ev : Env → Cs → Ev Fl
  chk : Nat → Sc → List Stmt → Bool
  need : Gam → Prop
  ok : ∀ {Γ : Gam} {k : Nat} {W : WX} {sc : Sc} {X : Cx} {st : List Stmt}, Good Γ k W sc X → need Γ → chk k sc st = true → PSs X st (tS Γ X.s_0.heap.objs.size W ev)
theorem aft_refl {Γ : Gam} {n : Nat} {σ : L2.St} {ρ : Env} {H : Hp} {I : Im} {T : Cs} {own : Nat → List Addr} (w : Wf Γ H I T) (er : ER Γ n σ ρ H I own) : Aft Γ n (Ow own) H I T ρ σ H I own := ⟨Ext.refl, w, er, fun _ h => .inl h⟩
def sEnd : CS where
  ev := fun ρ T => .ok (.nx ρ) T
  chk := fun _ _ st => st.isEmpty
  need := fun _ => True
  ok := by
    intro Γ k W sc X st g _ h
    cases st with
    | cons a b => cases h
    | nil => exact PSs.mono pss_nil fun D σ H ⟨I, ρ, T, own, w, er, p⟩ => p σ H I own (aft_refl w er)
/-- what comes behind a statement's end -/
def thenS (f : Fl) (r : Env → Cs → Ev Fl) (T : Cs) : Ev Fl := match f with
  | .nx ρ => r ρ T
  | f => .ok f T
def sSeq (a : C1) (r : CS) : CS where
  ev := fun ρ T => (a.ev ρ T).bind fun f T1 => thenS f r.ev T1
  chk := fun k sc st => match st with
    | s :: st => a.chk k sc s && r.chk k sc st
    | [] => false
  need := fun Γ => a.need Γ ∧ r.need Γ
  ok := by
    intro Γ k W sc X st g nd h
    split at h
    · obtain ⟨h1, h2⟩ := b2 h
      refine PSs.mono (pss_cons (a.ok g nd.1 h1) (r.ok g nd.2 h2)) fun D σ H q => ?_
      obtain ⟨I, ρ, T, own, w, er, p⟩ := q
      have p0 : PostS Γ X.s_0.heap.objs.size W D (Ow own) H I ((a.ev ρ T).bind fun f T1 => thenS f r.ev T1) := p
      refine ⟨I, ρ, T, own, w, er, ?_⟩
      show PostS Γ X.s_0.heap.objs.size W _ (Ow own) H I (a.ev ρ T)
      cases e : a.ev ρ T with
      | no => rw [e] at p0; exact p0
      | ex x T' => rw [e] at p0; exact p0
      | ok f T1 =>
        rw [e] at p0
        have p' : PostS Γ X.s_0.heap.objs.size W D (Ow own) H I (thenS f r.ev T1) := p0
        cases f with
        | nx ρ1 => exact fun σ' H' I' own' af => ⟨I', ρ1, T1, own', af.wf, af.er, PostS.from af.ext af.ow p'⟩
        | rt lv => exact p'
        | bk ρ1 => exact p'
        | ct ρ1 => exact p'
    · cases h
/-- slots forgotten -/
def forget (ρ : Env) : List Nat → Env
  | [] => ρ
  | i :: is => (forget ρ is).set i none
theorem forget_len (ρ : Env) : ∀ is, (forget ρ is).length = ρ.length
  | [] => rfl
  | i :: is => by unfold forget; rw [List.length_set, forget_len ρ is]
theorem forget_some {ρ : Env} {i : Nat} {lv : LV} : ∀ {is : List Nat}, (forget ρ is)[i]? = some (some lv) → ρ[i]? = some (some lv)
  | [], h => h
  | j :: is, h => by
    unfold forget at h
    by_cases e : j = i
    · subst e
      by_cases hl : j < (forget ρ is).length
      · rw [List.getElem?_set_self hl] at h; cases h
      · rw [List.getElem?_eq_none (by simpa using hl)] at h; cases h
    · rw [List.getElem?_set_ne e] at h
      exact forget_some h
open Classical in
theorem ER.less {Γ : Gam} {n : Nat} {σ : L2.St} {ρ ρ' : Env} {H : Hp} {I : Im} {own : Nat → List Addr} (r : ER Γ n σ ρ H I own) (hl : ρ'.length = ρ.length) (h : ∀ (i : Nat) lv, ρ'[i]? = some (some lv) → ρ[i]? = some (some lv)) :
    ∃ own', ER Γ n σ ρ' H I own' ∧ ∀ a, Ow own' a → Ow own a := by
  refine ⟨fun i => if ∃ lv, ρ'[i]? = some (some lv) then own i else [], ⟨r.len.trans hl.symm, fun i lv e => ?_, fun i e => ?_, fun i a ha => ?_, fun i j a h1 h2 => ?_⟩, fun a ⟨i, ha⟩ => ?_⟩
  · obtain ⟨v, h1, h2⟩ := r.at_ i lv (h i lv e)
    refine ⟨v, h1, ?_⟩
    rw [if_pos ⟨lv, e⟩]
    exact h2
  · rw [if_neg]
    intro ⟨lv, q⟩
    exact e lv q
  · split at ha
    · exact r.free i a ha
    · cases ha
  · split at h1
    · split at h2
      · exact r.disj i j a h1 h2
      · cases h2
    · cases h1
  · have ha' : a ∈ (if ∃ lv, ρ'[i]? = some (some lv) then own i else []) := ha
    split at ha'
    · exact ⟨i, ha'⟩
    · cases ha'
def sForget (is : List Nat) (r : CS) : CS where
  ev := fun ρ T => r.ev (forget ρ is) T
  chk := r.chk
  need := r.need
  ok := by
    intro Γ k W sc X st g nd h
    refine PSs.mono (r.ok g nd h) fun D σ H q => ?_
    obtain ⟨I, ρ, T, own, w, er, p⟩ := q
    obtain ⟨own', er', ho⟩ := er.less (forget_len ρ is) fun i lv e => forget_some e
    exact ⟨I, forget ρ is, T, own', w, er', PostS.from Ext.refl (fun a h => .inl (ho a h)) p⟩
/-- a local's own list becomes plain data -/
def frzLV : LV → Option LV
  | .ow xs => some (.sh (.lst xs))
  | .sh d => some (.sh d)
  | _ => none
theorem ER.set {Γ : Gam} {n : Nat} {σ : L2.St} {ρ : Env} {H H' : Hp} {I I' : Im} {own : Nat → List Addr} {i : Nat} {lv : LV} {v : V} {as : List Addr} {O : Addr → Prop} (r : ER Γ n σ ρ H I own) (hi : i < ρ.length) (x : Ext O H I H' I')
    (hO : ∀ (j : Nat) a, j ≠ i → a ∈ own j → ¬ O a) (q : RepL Γ n I' H' lv v as) (hf : ∀ a, a ∈ as → I'.G a = none ∧ a ∉ I'.κ ∧ H' a ≠ none) (hd : ∀ (j : Nat) a, j ≠ i → a ∈ as → a ∉ own j) :
    ER Γ n (σ.set i (some v)) (ρ.set i (some lv)) H' I' (fun j => if j = i then as else own j) := by
  refine ⟨by rw [List.length_set, List.length_set, r.len], fun j lv' e => ?_, fun j e => ?_, fun j a ha => ?_, fun j j' a h1 h2 => ?_⟩
  · by_cases q2 : i = j
    · subst q2
      rw [List.getElem?_set_self hi] at e
      cases e
      exact ⟨v, List.getElem?_set_self (by rw [r.len]; exact hi), by rw [if_pos rfl]; exact q⟩
    · rw [List.getElem?_set_ne q2] at e
      obtain ⟨u, h1, h2⟩ := r.at_ j lv' e
      refine ⟨u, by rw [List.getElem?_set_ne q2]; exact h1, ?_⟩
      rw [if_neg (Ne.symm q2)]
      exact h2.ext x.le fun a o ha ho => x.fr a o ho (r.free j a ha).2.1 (hO j a (Ne.symm q2) ha)
  · have hj : j ≠ i := by
      rintro rfl
      exact e lv (List.getElem?_set_self hi)
    rw [if_neg hj]
    refine r.dead j fun lv' q2 => e lv' ?_
    rw [List.getElem?_set_ne (Ne.symm hj)]
    exact q2
  · by_cases hj : j = i
    · rw [if_pos hj] at ha
      exact hf a ha
    · rw [if_neg hj] at ha
      obtain ⟨f1, f2, f3⟩ := r.free j a ha
      exact x.apart f1 f2 f3 (hO j a hj ha)
  · by_cases hj : j = i
    · by_cases hj' : j' = i
      · rw [hj, hj']
      · rw [if_pos hj] at h1
        rw [if_neg hj'] at h2
        exact absurd h2 (hd j' a hj' h1)
    · by_cases hj' : j' = i
      · rw [if_neg hj] at h1
        rw [if_pos hj'] at h2
        exact absurd h1 (hd j a hj h2)
      · rw [if_neg hj] at h1
        rw [if_neg hj'] at h2
        exact r.disj j j' a h1 h2
end Tp
end
section
set_option Elab.async false
set_option linter.all false
set_option maxRecDepth 100000
set_option maxHeartbeats 2000000
/-! TpI: statements, one by one. -/
namespace Tp
open PySem PySem.Spec PyProof.Rows L2

def isLoc (nm : List (Str × NameKind)) (x : Str) : Bool := match nm.lookup x with
  | some .local => true
  | some .cell => true
  | _ => false
theorem isLoc_or {nm : List (Str × NameKind)} {x : Str} (h : isLoc nm x = true) : nm.lookup x = some .local ∨ nm.lookup x = some .cell := by
  unfold isLoc at h
  split at h
  · rename_i q; exact .inl q
  · rename_i q; exact .inr q
  · cases h
/-- the name x may be stored; it stands in slot i -/
def okStore (sc : Sc) (i : Nat) (x : Str) : Bool := slotIs sc.N i x && (isLoc sc.nm x && isLoc sc.st x)
theorem okStore_ok {Γ : Gam} {k : Nat} {W : WX} {sc : Sc} {X : Cx} (g : Good Γ k W sc X) {i : Nat} {x : Str} (h : okStore sc i x = true) : X.N[i]? = some x ∧ L2.Loc X.env.scope x ∧ (X.fn x = true ∨ X.env.scope.names.lookup x = some .local) := by
  obtain ⟨h1, h⟩ := b2 h
  obtain ⟨h2, h3⟩ := b2 h
  refine ⟨by rw [g.N]; exact slotIs_ok h1, ?_, g.st x (isLoc_or h3)⟩
  unfold L2.Loc
  rw [g.nm]
  exact isLoc_or h2
/-- the value is not stored from within a comprehension -/
def noSwap (nm : List (Str × NameKind)) (x : Str) (px : Pos) (e : Expr) : Bool := match e with
  | .ListComp _ _ s p => !((nm.lookup x == some .local && px.line == p.line) && !(s.names.any fun (n, k) => n == x && (k == .local || k == .cell)))
  | .SetComp .. => false
  | .DictComp .. => false
  | _ => true
theorem noSwap_ok {x : Str} {px : Pos} {e : Expr} {env : PySem.Env} (hb : env.scope.kind = .function) (h : noSwap env.scope.names x px e = true) (l : Nat) : swapsWith e (some (.Name x px)) l env = pure false := by
  have hb' : env.blockKind = .function := by unfold PySem.Env.blockKind; rw [hb]; rfl
  unfold noSwap at h
  split at h
  · rename_i s p
    have h2 : ((env.scope.names.lookup x == some .local && px.line == p.line) && !(s.names.any fun (n, k) => n == x && (k == .local || k == .cell))) = false := by
      revert h
      cases ((env.scope.names.lookup x == some .local && px.line == p.line) && !(s.names.any fun (n, k) => n == x && (k == .local || k == .cell))) <;> simp
    unfold swapsWith
    simp only [hb', Expr.pos, PySem.Env.kindOf, beq_self_eq_true, Bool.true_and]
    rw [h2]
  · cases h
  · cases h
  · rename_i q1 q2 q3
    cases e <;> first | rfl | exact (q1 _ _ _ _ rfl).elim | exact (q2 _ _ _ _ rfl).elim | exact (q3 _ _ _ _ _ rfl).elim
def notComp : Expr → Bool
  | .ListComp .. => false
  | .SetComp .. => false
  | .DictComp .. => false
  | _ => true
theorem notComp_ok {e : Expr} (h : notComp e = true) (t : Option Expr) (l : Nat) (env : PySem.Env) : swapsWith e t l env = pure false := by
  cases e <;> first | rfl | cases h
/-- what an answer becomes in a local: kept as it is, or plain data -/
def asLV (keep : Bool) (r : R) : Option LV := if keep then (match r with
  | .v lv => some lv
  | _ => none) else (rD r).map .sh
section
variable {Γ : Gam} {n : Nat} {W : WX}
theorem asLV_ok {own : Nat → List Addr} {H H1 : Hp} {I I1 : Im} {T : Cs} {keep : Bool} {r : R} {lv : LV} {v : V} (x : Ext O0 H I H1 I1) (w : Wf Γ H1 I1 T) (e : asLV keep r = some lv) (q : RepR Γ n own H H1 I1 r v) :
    ∃ I2 as, Ext O0 H I H1 I2 ∧ Wf Γ H1 I2 T ∧ Im.Le I1 I2 ∧ RepL Γ n I2 H1 lv v as ∧ (∀ a, a ∈ as → I2.G a = none ∧ a ∉ I2.κ ∧ H1 a ≠ none ∧ H a = none) := by
  unfold asLV at e
  cases keep with
  | true =>
    rw [if_pos rfl] at e
    split at e
    · cases e
      obtain ⟨as, h1, h2⟩ := q
      exact ⟨I1, as, x, w, ⟨fun _ _ h => h, fun _ _ h => h, rfl⟩, h1, h2⟩
    · cases e
  | false =>
    rw [if_neg Bool.false_ne_true] at e
    obtain ⟨d, e1, rfl⟩ := Option.map_eq_some_iff.mp e
    obtain ⟨I2, x2, w2, le, r2⟩ := q.toD x w e1
    exact ⟨I2, [], x2, w2, le, ⟨rfl, r2⟩, by simp⟩
/-- a value new since H comes into slot i -/
theorem store_aft {σ : L2.St} {ρ : Env} {own : Nat → List Addr} {H H1 : Hp} {I I1 : Im} {T : Cs} {lv : LV} {v : V} {as : List Addr} {i : Nat} (er : ER Γ n σ ρ H I own) (hi : i < ρ.length) (x : Ext O0 H I H1 I1) (w : Wf Γ H1 I1 T) (q : RepL Γ n I1 H1 lv v as)
    (hf : ∀ a, a ∈ as → I1.G a = none ∧ a ∉ I1.κ ∧ H1 a ≠ none ∧ H a = none) : ∃ own', Aft Γ n (Ow own) H I T (ρ.set i (some lv)) (σ.set i (some v)) H1 I1 own' := by
  refine ⟨_, x.mono fun _ q => q.elim, w, er.set hi x (fun _ _ _ _ q => q.elim) q (fun a ha => ⟨(hf a ha).1, (hf a ha).2.1, (hf a ha).2.2.1⟩) (fun j a _ ha hj => (er.free j a hj).2.2 (hf a ha).2.2.2), fun a ⟨j, ha⟩ => ?_⟩
  have ha' : a ∈ (if j = i then as else own j) := ha
  split at ha'
  · exact .inr (hf a ha').2.2.2
  · exact .inl ⟨j, ha'⟩
end
/-- x = e -/
def sAsg (i : Nat) (keep : Bool) (a : CE) : C1 where
  ev := fun ρ T => (a.ev ρ T).bind fun r T1 => match asLV keep r with
    | some lv => if i < ρ.length then .ok (.nx (ρ.set i (some lv))) T1 else .no
    | none => .no
  chk := fun k sc st => match st with
    | .Assign [.Name x px] e _ => okStore sc i x && (noSwap sc.nm x px e && a.chk k sc e)
    | _ => false
  need := a.need
  ok := by
    intro Γ k W sc X st g nd h
    split at h
    · rename_i x px e pos
      obtain ⟨h1, h⟩ := b2 h
      obtain ⟨h2, h3⟩ := b2 h
      obtain ⟨s1, s2, s3⟩ := okStore_ok g h1
      have hs : swapsWith e (some (.Name x px)) pos.line X.env = pure false := noSwap_ok g.fk (by rw [g.nm]; exact h2) _
      refine PS.mono (ps_set (i := i) g.nd s1 s2 (a.ok g nd h3 fun _ => rfl) hs s3) fun D σ H q => ?_
      obtain ⟨I, ρ, T, own, w, er, p⟩ := q
      refine ⟨I, ρ, T, own, w, er, (PostS.step (rel := RepR Γ X.s_0.heap.objs.size own) (show PostS Γ X.s_0.heap.objs.size W D (Ow own) H I _ from p) Ext.refl).imp fun v H1 q1 => ?_⟩
      obtain ⟨r, T1, I1, _, x1, w1, r1, p1⟩ := q1
      split at p1
      · rename_i lv e1
        split at p1
        · rename_i hi
          obtain ⟨I2, as, x2, w2, _, l2, f2⟩ := asLV_ok x1 w1 e1 r1
          obtain ⟨own', af⟩ := store_aft er hi x2 w2 l2 f2
          exact p1 _ _ _ _ af
        · exact p1.elim
      · exact p1.elim
    · cases h
/-- an expression, its value dropped -/
def sExpr (a : CE) : C1 where
  ev := fun ρ T => (a.ev ρ T).bind fun _ T1 => .ok (.nx ρ) T1
  chk := fun k sc st => match st with
    | .Expr e _ => notComp e && a.chk k sc e
    | _ => false
  need := a.need
  ok := by
    intro Γ k W sc X st g nd h
    split at h
    · obtain ⟨h2, h3⟩ := b2 h
      refine PS.mono (ps_expr (a.ok g nd h3 fun _ => rfl) (notComp_ok h2 _ _ _)) fun D σ H q => ?_
      obtain ⟨I, ρ, T, own, w, er, p⟩ := q
      refine ⟨I, ρ, T, own, w, er, (PostS.step (rel := RepR Γ X.s_0.heap.objs.size own) (show PostS Γ X.s_0.heap.objs.size W D (Ow own) H I _ from p) Ext.refl).imp fun v H1 q1 => ?_⟩
      obtain ⟨r, T1, I1, _, x1, w1, r1, p1⟩ := q1
      exact p1 σ H1 I1 own ⟨x1.mono fun _ q => q.elim, w1, er.ext x1, fun a h => .inl h⟩
    · cases h
/-- what is handed back -/
def retLV : R → Option LV
  | .v (.sh d) => some (.sh d)
  | .v (.ow xs) => some (.ow xs)
  | .v (.od kvs) => some (.od kvs)
  | .bw xs => some (.ow xs)
  | .bd kvs => some (.od kvs)
  | _ => none
theorem retLV_ok {Γ : Gam} {n : Nat} {own : Nat → List Addr} {H H1 : Hp} {I1 : Im} {r : R} {lv : LV} {v : V} (e : retLV r = some lv) (q : RepR Γ n own H H1 I1 r v) :
    ∃ as, RepL Γ n I1 H1 lv v as ∧ ∀ a, a ∈ as → I1.G a = none ∧ a ∉ I1.κ ∧ H1 a ≠ none ∧ (Ow own a ∨ H a = none) := by
  unfold retLV at e
  split at e
  · cases e
    exact ⟨[], ⟨rfl, q.unsh⟩, by simp⟩
  · cases e
    obtain ⟨as, h1, h2⟩ := q
    exact ⟨as, h1, fun a ha => let ⟨p1, p2, p3, p4⟩ := h2 a ha; ⟨p1, p2, p3, .inr p4⟩⟩
  · cases e
    obtain ⟨as, h1, h2⟩ := q
    exact ⟨as, h1, fun a ha => let ⟨p1, p2, p3, p4⟩ := h2 a ha; ⟨p1, p2, p3, .inr p4⟩⟩
  · cases e
    obtain ⟨a, vs, rfl, h2, h3, h4, h5, h6⟩ := q
    refine ⟨[a], ⟨a, vs, rfl, rfl, h2, h6⟩, fun b hb => ?_⟩
    have e : b = a := by simpa using hb
    subst e
    exact ⟨h3, h4, by rw [h2]; simp, .inl h5⟩
  · cases e
    obtain ⟨a, vs, rfl, h2, h3, h4, h5, h6⟩ := q
    refine ⟨[a], ⟨a, vs, rfl, rfl, h2, h6⟩, fun b hb => ?_⟩
    have e : b = a := by simpa using hb
    subst e
    exact ⟨h3, h4, by rw [h2]; simp, .inl h5⟩
  · cases e
def sRet (a : CE) : C1 where
  ev := fun ρ T => (a.ev ρ T).bind fun r T1 => match retLV r with
    | some lv => .ok (.rt lv) T1
    | none => .no
  chk := fun k sc st => match st with
    | .Return (some e) _ => a.chk k sc e
    | _ => false
  need := a.need
  ok := by
    intro Γ k W sc X st g nd h
    split at h
    · refine PS.mono (ps_ret (a.ok g nd h fun _ => rfl)) fun D σ H q => ?_
      obtain ⟨I, ρ, T, own, w, er, p⟩ := q
      refine ⟨I, ρ, T, own, w, er, (PostS.step (rel := RepR Γ X.s_0.heap.objs.size own) (show PostS Γ X.s_0.heap.objs.size W D (Ow own) H I _ from p) Ext.refl).imp fun v H1 q1 => ?_⟩
      obtain ⟨r, T1, I1, _, x1, w1, r1, p1⟩ := q1
      split at p1
      · rename_i lv e1
        obtain ⟨as, l1, f1⟩ := retLV_ok e1 r1
        exact p1 v H1 I1 as (x1.mono fun _ q => q.elim) w1 l1 f1
      · exact p1.elim
    · cases h
def sRetN : C1 where
  ev := fun _ T => .ok (.rt (.sh .non)) T
  chk := fun _ _ st => match st with
    | .Return none _ => true
    | _ => false
  need := fun _ => True
  ok := by
    intro Γ k W sc X st g nd h
    split at h
    · refine PS.mono ps_retN fun D σ H q => ?_
      obtain ⟨I, ρ, T, own, w, er, p⟩ := q
      exact p .non H I [] Ext.refl w ⟨rfl, .ofNon⟩ (by simp)
    · cases h
def sPass : C1 where
  ev := fun ρ T => .ok (.nx ρ) T
  chk := fun _ _ st => match st with
    | .Pass _ => true
    | _ => false
  need := fun _ => True
  ok := by
    intro Γ k W sc X st g nd h
    split at h
    · exact PS.mono ps_pass fun D σ H ⟨I, ρ, T, own, w, er, p⟩ => p σ H I own (aft_refl w er)
    · cases h
/-- what is never come to here (raise) -/
def sNo : C1 where
  ev := fun _ _ => .no
  chk := fun _ _ _ => true
  need := fun _ => True
  ok := by
    intro Γ k W sc X st g nd h
    exact PS.mono ps_never fun D σ H ⟨I, ρ, T, own, w, er, p⟩ => p
def sIf (c : CT) (a b : CS) : C1 where
  ev := fun ρ T => (c.ev ρ T).bind fun k T1 => if k then a.ev ρ T1 else b.ev ρ T1
  chk := fun k sc st => match st with
    | .If t x y _ => c.chk k sc t && (a.chk k sc x && b.chk k sc y)
    | _ => false
  need := fun Γ => c.need Γ ∧ a.need Γ ∧ b.need Γ
  ok := by
    intro Γ k W sc X st g nd h
    split at h
    · obtain ⟨h1, h⟩ := b2 h
      obtain ⟨h2, h3⟩ := b2 h
      refine PS.mono (ps_if (c.ok g nd.1 h1 fun _ => rfl) (a.ok g nd.2.1 h2) (b.ok g nd.2.2 h3)) fun D σ H q => ?_
      obtain ⟨I, ρ, T, own, w, er, p⟩ := q
      refine ⟨I, ρ, T, own, w, er, (PostS.step (rel := relB) (show PostS Γ X.s_0.heap.objs.size W D (Ow own) H I _ from p) Ext.refl).imp fun v H1 q1 => ?_⟩
      obtain ⟨r1, T1, I1, _, x1, w1, e1, p1⟩ := q1
      have e1' : v = r1 := e1
      subst e1'
      cases v with
      | true => exact ⟨I1, ρ, T1, own, w1, er.ext x1, PostS.from (x1.mono fun _ q => q.elim) (fun a h => .inl h) p1⟩
      | false => exact ⟨I1, ρ, T1, own, w1, er.ext x1, PostS.from (x1.mono fun _ q => q.elim) (fun a h => .inl h) p1⟩
    · cases h
/-- while: m the turns at most -/
def whileEv (c : Env → Cs → Ev Bool) (b : Env → Cs → Ev Fl) : Nat → Env → Cs → Ev Fl
  | 0, _, _ => .no
  | m + 1, ρ, T => (c ρ T).bind fun k T1 => if k then (b ρ T1).bind fun f T2 => (match f with
      | .nx ρ' => whileEv c b m ρ' T2
      | .ct ρ' => whileEv c b m ρ' T2
      | .bk ρ' => .ok (.nx ρ') T2
      | .rt lv => .ok (.rt lv) T2) else .ok (.nx ρ) T1
def sWhile (m : Nat) (c : CT) (b : CS) : C1 where
  ev := whileEv c.ev b.ev m
  chk := fun k sc st => match st with
    | .While t x [] _ => c.chk k sc t && b.chk k sc x
    | _ => false
  need := fun Γ => c.need Γ ∧ b.need Γ
  ok := by
    intro Γ k W sc X st g nd h
    split at h
    · obtain ⟨h1, h2⟩ := b2 h
      refine PS.mono (ps_while g.po (c.ok g nd.1 h1 fun _ => rfl) (b.ok g nd.2 h2)) fun D σ H q => ?_
      refine ⟨fun m' σ H => ∃ I ρ T own, Wf Γ H I T ∧ ER Γ X.s_0.heap.objs.size σ ρ H I own ∧ PostS Γ X.s_0.heap.objs.size W D (Ow own) H I (whileEv c.ev b.ev m' ρ T), ⟨m, q⟩, ?_⟩
      rintro m' σ H ⟨I, ρ, T, own, w, er, p⟩
      cases m' with
      | zero => exact p.elim
      | succ m' =>
        refine ⟨I, ρ, T, own, w, er, (PostS.step (rel := relB) p Ext.refl).imp fun v H1 q1 => ?_⟩
        obtain ⟨r1, T1, I1, _, x1, w1, e1, p1⟩ := q1
        have e1' : v = r1 := e1
        subst e1'
        have p1' : PostS Γ X.s_0.heap.objs.size W D (Ow own) H1 I1 _ := PostS.from (x1.mono fun _ q => q.elim) (fun a h => .inl h) p1
        cases v with
        | false => exact p1' σ H1 I1 own (aft_refl w1 (er.ext x1))
        | true =>
          refine ⟨fun σ H => ∃ I ρ T own, Wf Γ H I T ∧ ER Γ X.s_0.heap.objs.size σ ρ H I own ∧ PostS Γ X.s_0.heap.objs.size W D (Ow own) H I (whileEv c.ev b.ev m' ρ T), fun σ' H' z => ⟨m', Nat.lt_succ_self _, z⟩, ?_⟩
          refine ⟨I1, ρ, T1, own, w1, er.ext x1, ?_⟩
          have p2 : PostS Γ X.s_0.heap.objs.size W D (Ow own) H1 I1 ((b.ev ρ T1).bind _) := p1'
          show PostS Γ X.s_0.heap.objs.size W _ (Ow own) H1 I1 (b.ev ρ T1)
          cases e2 : b.ev ρ T1 with
          | no => rw [e2] at p2; exact p2
          | ex x T' => rw [e2] at p2; exact p2
          | ok f T2 =>
            rw [e2] at p2
            cases f with
            | nx ρ' => exact fun σ' H' I' own' af => ⟨I', ρ', T2, own', af.wf, af.er, PostS.from af.ext af.ow p2⟩
            | ct ρ' => exact fun σ' H' I' own' af => ⟨I', ρ', T2, own', af.wf, af.er, PostS.from af.ext af.ow p2⟩
            | bk ρ' => exact p2
            | rt lv => exact p2
    · cases h
def sBreak : C1 where
  ev := fun ρ T => .ok (.bk ρ) T
  chk := fun _ _ st => match st with
    | .Break _ => true
    | _ => false
  need := fun _ => True
  ok := by
    intro Γ k W sc X st g nd h
    split at h
    · exact PS.mono ps_break fun D σ H ⟨I, ρ, T, own, w, er, p⟩ => p σ H I own (aft_refl w er)
    · cases h
def sCont : C1 where
  ev := fun ρ T => .ok (.ct ρ) T
  chk := fun _ _ st => match st with
    | .Continue _ => true
    | _ => false
  need := fun _ => True
  ok := by
    intro Γ k W sc X st g nd h
    split at h
    · exact PS.mono ps_continue fun D σ H ⟨I, ρ, T, own, w, er, p⟩ => p σ H I own (aft_refl w er)
    · cases h
end Tp
end
section
set_option Elab.async false
set_option linter.all false
set_option maxRecDepth 100000
set_option maxHeartbeats 2000000
/-! TpJ: lists of one's own, changed. -/
namespace Tp
open PySem PySem.Spec PyProof.Rows L2

section
variable {Γ : Gam} {n : Nat} {W : WX}
theorem Ext.write {O : Addr → Prop} {H : Hp} {I : Im} {a : Addr} {o' : HO} (h : O a) : Ext O H I (upd H a o') I :=
  ⟨fun _ _ h => h, fun _ _ h => h, fun b u q _ no => by
    rw [upd_ne (fun e => no (by rw [e]; exact h))]; exact q, fun b q => by
    by_cases e : b = a
    · subst e; rw [upd_same]; simp
    · rw [upd_ne e]; exact q, fun _ h => .inl h, fun _ h => .inl h, rfl⟩
theorem Wf.write {H : Hp} {I : Im} {T : Cs} {a : Addr} {o' : HO} (w : Wf Γ H I T) (hg : I.G a = none) (hk : a ∉ I.κ) : Wf Γ (upd H a o') I T :=
  ⟨fun b u q => by
    rw [upd_ne (ne_of_none q hg)]; exact w.gh b u q, w.nd, w.kg, w.len, fun m b ds e1 e2 => by
    obtain ⟨vs, h1, h2⟩ := w.cells m b ds e1 e2
    refine ⟨vs, ?_, h2⟩
    rw [upd_ne (fun e => hk (by rw [← e]; exact List.mem_of_getElem? e1))]
    exact h1⟩
/-- the i-th local's own thing at a is written -/
theorem write_aft {σ : L2.St} {ρ : Env} {own : Nat → List Addr} {H H1 : Hp} {I I1 : Im} {T : Cs} {lv lv' : LV} {a : Addr} {o' : HO} {i : Nat} (er : ER Γ n σ ρ H I own) (x : Ext O0 H I H1 I1) (w : Wf Γ H1 I1 T)
    (hi : ρ[i]? = some (some lv)) (ho : own i = [a]) (hs : σ[i]? = some (some (.ref a))) (q : RepL Γ n I1 (upd H1 a o') lv' (.ref a) [a]) : Aft Γ n (Ow own) H I T (ρ.set i (some lv')) σ (upd H1 a o') I1 own := by
  have er1 := er.ext x
  have ha : a ∈ own i := by rw [ho]; simp
  obtain ⟨f1, f2, f3⟩ := er1.free i a ha
  have hil : i < ρ.length := (List.getElem?_eq_some_iff.mp hi).1
  refine ⟨x.trans (O := Ow own) (O1 := O0) (Ext.write (O := Ow own) ⟨i, ha⟩) (fun _ z => z.elim) (fun _ z => .inl z), w.write f1 f2, ⟨by rw [List.length_set]; exact er1.len, fun j lv2 e => ?_, fun j e => ?_, fun j b hb => ?_, er1.disj⟩, fun _ z => .inl z⟩
  · by_cases hj : i = j
    · subst hj
      rw [List.getElem?_set_self hil] at e
      cases e
      exact ⟨_, hs, by rw [ho]; exact q⟩
    · rw [List.getElem?_set_ne hj] at e
      obtain ⟨v, h1, h2⟩ := er1.at_ j lv2 e
      refine ⟨v, h1, h2.ext ⟨fun _ _ h => h, fun _ _ h => h, rfl⟩ fun b u hb q2 => ?_⟩
      rw [upd_ne]
      · exact q2
      · rintro rfl
        exact hj (er1.disj i j b ha hb)
  · have hj : i ≠ j := by
      rintro rfl
      exact e lv' (List.getElem?_set_self hil)
    refine er1.dead j fun lv2 q2 => e lv2 ?_
    rw [List.getElem?_set_ne hj]
    exact q2
  · obtain ⟨g1, g2, g3⟩ := er1.free j b hb
    refine ⟨g1, g2, ?_⟩
    by_cases e : b = a
    · subst e; rw [upd_same]; simp
    · rw [upd_ne e]; exact g3
/-- the i-th local's own list -/
theorem own_list {σ : L2.St} {ρ : Env} {own : Nat → List Addr} {H : Hp} {I : Im} {i : Nat} {xs : List D} (er : ER Γ n σ ρ H I own) (hi : ρ[i]? = some (some (.ow xs))) : ∃ a vs, own i = [a] ∧ σ[i]? = some (some (.ref a)) ∧ H a = some (.lst vs) ∧ Reps Γ I xs vs := by
  obtain ⟨v, h1, a, vs, h2, rfl, h3, h4⟩ := er.at_ i _ hi
  exact ⟨a, vs, h2, h1, h3, h4⟩
end
/-- the name in slot i -/
def isVar (sc : Sc) (i : Nat) (x : Str) : Bool := okName x && (slotIs sc.N i x && isVis sc.nm x)
theorem isVar_ok {Γ : Gam} {k : Nat} {W : WX} {sc : Sc} {X : Cx} (g : Good Γ k W sc X) {i : Nat} {x : Str} {pos : Pos} (h : isVar sc i x = true) : PE X (.Name x pos) (tVar i) := by
  obtain ⟨h1, h⟩ := b2 h
  obtain ⟨h2, h3⟩ := b2 h
  obtain ⟨d1, d2, _⟩ := okName_d h1
  exact pe_var (by rw [g.N]; exact slotIs_ok h2) (isVis_ok g.nm h3) d1 d2
/-- x.append(e) -/
def sAppend (i : Nat) (a : CE) : C1 where
  ev := fun ρ T => match ρ[i]? with
    | some (some (.ow xs)) => (evD a.ev ρ T).bind fun d T1 => if xs.length < lim then .ok (.nx (ρ.set i (some (.ow (xs ++ [d]))))) T1 else .no
    | _ => .no
  chk := fun k sc st => match st with
    | .Expr (.Call (.Attribute (.Name x _) m ap) [e] [] cp) _ => decide (m = ("append" : Str)) && ((ap.endLine == cp.line) && (isVar sc i x && (notStar e && a.chk k sc e)))
    | _ => false
  need := a.need
  ok := by
    intro Γ k W sc X st g nd h
    split at h
    · obtain ⟨h1, h⟩ := b2 h
      obtain ⟨hl, h⟩ := b2 h
      obtain ⟨h2, h⟩ := b2 h
      obtain ⟨h3, h4⟩ := b2 h
      have hm := of_decide_eq_true h1
      subst hm
      refine PS.mono (ps_expr (pe_bm PySem.F.plainAttrs_list PySem.F.slot_list_append PySem.F.type_list_append mt_append (isVar_ok g h2) (pa_cons (a.ok (n := X.s_0.heap.objs.size) g nd h4 fun _ => rfl) pa_nil (star_cons h3)) (by rfl) (by rw [star_cons h3]; rfl) hl (star_cons h3) rfl) rfl) fun D σ H q => ?_
      obtain ⟨I, ρ, T, own, w, er, p⟩ := q
      have p' : PostS Γ X.s_0.heap.objs.size W D (Ow own) H I (match ρ[i]? with
        | some (some (.ow xs)) => (evD a.ev ρ T).bind fun d T1 => if xs.length < lim then .ok (.nx (ρ.set i (some (.ow (xs ++ [d]))))) T1 else .no
        | _ => .no) := p
      split at p'
      · rename_i xs e1
        obtain ⟨b, vs, o1, o2, o3, o4⟩ := own_list er e1
        refine ⟨_, o2, .inl ⟨rfl, _, SqL.of o3⟩, ?_⟩
        refine ⟨I, ρ, T, own, w, er, Post.toD ((PostS.step (rel := relD Γ) p' Ext.refl).imp fun v H1 q1 => ?_)⟩
        obtain ⟨d, T1, I1, _, x1, w1, r1, p1⟩ := q1
        split at p1
        · rename_i hl
          obtain ⟨f1, f2, f3⟩ := er.free i b (by rw [o1]; simp)
          have o3' : H1 b = some (.lst vs) := x1.fr _ _ o3 f2 fun z => z
          have o4' := o4.mono x1.le
          refine ⟨b, vs, v, rfl, rfl, o3', by rw [o4.length]; exact Nat.lt_of_lt_of_le hl lim_le, ?_⟩
          exact p1 σ _ I1 own (write_aft er x1 w1 e1 o1 o2 ⟨b, _, rfl, rfl, upd_same, o4'.append (Reps.cons r1 Reps.nil)⟩)
        · exact p1.elim
      · exact p'.elim
    · cases h
end Tp
end
section
set_option Elab.async false
set_option linter.all false
set_option maxRecDepth 100000
set_option maxHeartbeats 2000000
/-! TpK: targets, stores into lists, several names at once. -/
namespace Tp
open PySem PySem.Spec PyProof.Rows L2

/-! ### a local's own thing becomes plain data -/
section
variable {Γ : Gam} {n : Nat} {W : WX}
theorem RepL.frz {σ : L2.St} {ρ : Env} {own : Nat → List Addr} {H : Hp} {I : Im} {T : Cs} {i : Nat} {lv lv' : LV} (w : Wf Γ H I T) (er : ER Γ n σ ρ H I own) (hi : ρ[i]? = some (some lv)) (e : frzLV lv = some lv') :
    ∃ I' own', Aft Γ n (Ow own) H I T (ρ.set i (some lv')) σ H I' own' := by
  have hil : i < ρ.length := (List.getElem?_eq_some_iff.mp hi).1
  obtain ⟨v, e1, e2⟩ := er.at_ i _ hi
  have key : ∀ (a : Addr) (o : HO) (d : D), own i = [a] → H a = some o → v = .ref a → Rep Γ ⟨upd I.G a o, I.κ, I.me⟩ d (.ref a) → ∃ I' own', Aft Γ n (Ow own) H I T (ρ.set i (some (.sh d))) σ H I' own' := by
    intro a o d ho hH ev rd
    subst ev
    have ha : a ∈ own i := by rw [ho]; simp
    obtain ⟨f1, f2, f3⟩ := er.free i a ha
    have x : Ext (Ow own) H I H ⟨upd I.G a o, I.κ, I.me⟩ := Ext.freeze f1 ⟨i, ha⟩
    have hs : σ.set i (some (.ref a)) = σ := by
      have h1 := List.getElem?_eq_some_iff.mp e1
      obtain ⟨h2, h3⟩ := h1
      rw [← h3]
      exact List.set_getElem_self h2
    refine ⟨_, fun j => if j = i then [] else own j, x, w.freeze hH f1 f2, ?_, fun b ⟨j, hb⟩ => ?_⟩
    · refine ⟨by rw [List.length_set]; exact er.len, fun j lv2 q => ?_, fun j q => ?_, fun j b hb => ?_, fun j j' b h1 h2 => ?_⟩
      · by_cases hj : i = j
        · subst hj
          rw [List.getElem?_set_self hil] at q
          cases q
          exact ⟨_, e1, by rw [if_pos rfl]; exact ⟨rfl, rd⟩⟩
        · rw [List.getElem?_set_ne hj] at q
          obtain ⟨u, h1, h2⟩ := er.at_ j lv2 q
          refine ⟨u, h1, ?_⟩
          rw [if_neg (Ne.symm hj)]
          exact h2.ext x.le fun b o _ q => q
      · by_cases hj : j = i
        · rw [if_pos hj]
        · rw [if_neg hj]
          refine er.dead j fun lv2 q2 => q lv2 ?_
          rw [List.getElem?_set_ne (Ne.symm hj)]
          exact q2
      · by_cases hj : j = i
        · rw [if_pos hj] at hb; cases hb
        · rw [if_neg hj] at hb
          obtain ⟨g1, g2, g3⟩ := er.free j b hb
          refine ⟨?_, g2, g3⟩
          show upd I.G a o b = none
          rw [upd_ne (fun q => hj (by rw [q] at hb; exact er.disj j i a hb ha))]
          exact g1
      · by_cases hj : j = i
        · rw [if_pos hj] at h1; cases h1
        · by_cases hj' : j' = i
          · rw [if_pos hj'] at h2; cases h2
          · rw [if_neg hj] at h1
            rw [if_neg hj'] at h2
            exact er.disj j j' b h1 h2
    · have hb' : b ∈ (if j = i then [] else own j) := hb
      split at hb'
      · cases hb'
      · exact .inl ⟨j, hb'⟩
  unfold frzLV at e
  split at e
  · cases e
    obtain ⟨a, vs, h1, rfl, h2, h3⟩ := e2
    have le : Im.Le I ⟨upd I.G a (.lst vs), I.κ, I.me⟩ := Im.Le.frz (er.free i a (by rw [h1]; simp)).1
    exact key a _ _ h1 h2 rfl (.ofLst (show upd I.G a (.lst vs) a = _ from upd_same) (h3.mono le))
  · rename_i d0
    cases e
    refine ⟨I, own, Ext.refl, w, ?_, fun b h => .inl h⟩
    have hs : ρ.set i (some (.sh d0)) = ρ := by
      obtain ⟨h2, h3⟩ := List.getElem?_eq_some_iff.mp hi
      rw [← h3]
      exact List.set_getElem_self h2
    rw [hs]
    exact er
  · cases e
end
/-- the i-th local as it may be looked at by everybody from now on -/
def sFrz (i : Nat) (r : CS) : CS where
  ev := fun ρ T => match ρ[i]? with
    | some (some lv) => (match frzLV lv with
      | some lv' => r.ev (ρ.set i (some lv')) T
      | none => .no)
    | _ => .no
  chk := r.chk
  need := r.need
  ok := by
    intro Γ k W sc X st g nd h
    refine PSs.mono (r.ok g nd h) fun D σ H q => ?_
    obtain ⟨I, ρ, T, own, w, er, p⟩ := q
    have p' : PostS Γ X.s_0.heap.objs.size W D (Ow own) H I (match ρ[i]? with
        | some (some lv) => (match frzLV lv with
          | some lv' => r.ev (ρ.set i (some lv')) T
          | none => .no)
        | _ => .no) := p
    split at p'
    · rename_i lv e1
      split at p'
      · rename_i lv' e2
        obtain ⟨I', own', af⟩ := RepL.frz w er e1 e2
        exact ⟨I', _, T, own', af.wf, af.er, PostS.from af.ext af.ow p'⟩
      · exact p'.elim
    · exact p'.elim

/-! ### targets -/
/-- only the slots sl are stored -/
structure Chg (sl : List Nat) (σ σ' : L2.St) : Prop where
  len : σ'.length = σ.length
  at_ : ∀ j, j ∉ sl → σ'[j]? = σ[j]?
theorem Chg.refl {sl : List Nat} {σ : L2.St} : Chg sl σ σ := ⟨rfl, fun _ _ => rfl⟩
theorem Chg.one {i : Nat} {σ : L2.St} {x : Option V} : Chg [i] σ (σ.set i x) := ⟨List.length_set, fun j h => List.getElem?_set_ne fun e => h (by simp [e])⟩
theorem Chg.trans {s1 s2 : List Nat} {a b c : L2.St} (h : Chg s1 a b) (q : Chg s2 b c) : Chg (s1 ++ s2) a c :=
  ⟨q.len.trans h.len, fun j hj => (q.at_ j fun z => hj (by simp [z])).trans (h.at_ j fun z => hj (by simp [z]))⟩
def PostG (Γ : Gam) (n : Nat) (W : WX) (O : Addr → Prop) (sl : List Nat) (pu : Bool) (σ : L2.St) (H : Hp) (I : Im) (res : Ev Env) (Q : L2.St → Hp → Prop) : Prop := match res with
  | .no => False
  | .ok ρ' T' => ∀ σ' H' I' own', Aft Γ n O H I T' ρ' σ' H' I' own' → Chg sl σ σ' → (pu = true → Ext O0 H I H' I') → Q σ' H'
  | .ex e T' => XS Γ W O H I e T'
theorem PostG.step {Γ : Gam} {n : Nat} {W : WX} {O : Addr → Prop} {H H1 : Hp} {I I1 : Im} {α β : Type} {rel : Hp → Hp → Im → α → β → Prop} {x : Ev α} {f : α → Cs → Ev Env} {sl : List Nat} {pu : Bool} {σ : L2.St} {Q : L2.St → Hp → Prop} (h : PostG Γ n W O sl pu σ H I (x.bind f) Q) (a : Ext O0 H I H1 I1) :
    Post Γ rel W σ H1 I1 x fun v H2 => ∃ r T2 I2, x = .ok r T2 ∧ Ext O0 H1 I1 H2 I2 ∧ Wf Γ H2 I2 T2 ∧ rel H1 H2 I2 r v ∧ PostG Γ n W O sl pu σ H I (f r T2) Q := by
  cases x with
  | no => exact h
  | ok r T => exact fun v H' I' a b c => ⟨r, T, I', rfl, a, b, c, h⟩
  | ex e T => exact fun cls d H' I' b c z => h cls d σ H' I' ((a.tr0 b).mono fun _ q => q.elim) c z
theorem PostG.from {Γ : Gam} {n : Nat} {W : WX} {O : Addr → Prop} {H H1 : Hp} {I I1 : Im} {own1 : Nat → List Addr} (x : Ext O H I H1 I1) (hO : ∀ a, Ow own1 a → O a ∨ H a = none) {s1 s2 : List Nat} {u1 u2 : Bool} {σ σ1 : L2.St} {res : Ev Env} {Q : L2.St → Hp → Prop} (c : Chg s1 σ σ1) (xo : u1 = true → Ext O0 H I H1 I1) (h : PostG Γ n W O (s1 ++ s2) (u1 && u2) σ H I res Q) : PostG Γ n W (Ow own1) s2 u2 σ1 H1 I1 res Q := by
  cases res with
  | no => exact h
  | ok ρ T => exact fun σ' H' I' own' a c2 xo2 => h σ' H' I' own' ⟨x.trans a.ext (fun _ h => h) hO, a.wf, a.er, fun y q => by
    rcases a.ow y q with z | z
    · exact hO y z
    · refine .inr ?_
      cases e : H y with
      | none => rfl
      | some o => exact absurd z (x.th y (by rw [e]; simp))⟩ (c.trans c2) fun z => (xo (b2 z).1).tr0 (xo2 (b2 z).2)
  | ex e T => exact XS.from x hO h
/-- a target that takes plain data -/
structure CG where
  ev : D → Env → Cs → Ev Env
  sl : List Nat
  pure : Bool
  hp : pure = true → ∀ d ρ T ρ1 T1, ev d ρ T = .ok ρ1 T1 → ρ1.length = ρ.length ∧ ∀ j, j ∉ sl → ρ1[j]? = ρ[j]?
  chk : Nat → Sc → Expr → Bool
  need : Gam → Prop
  z : Bool
  ok : ∀ {Γ : Gam} {k : Nat} {W : WX} {sc : Sc} {X : Cx} {e : Expr} {n : Nat}, Good Γ k W sc X → need Γ → chk k sc e = true → (z = true → n = X.s_0.heap.objs.size) → ∃ t : TG, PG X e t ∧
    ∀ (σ : L2.St) (H : Hp) (I : Im) (ρ : Env) (T : Cs) (own : Nat → List Addr) (d : D) (v : V) (Q : L2.St → Hp → Prop), Wf Γ H I T → ER Γ n σ ρ H I own → Rep Γ I d v → PostG Γ n W (Ow own) sl pure σ H I (ev d ρ T) Q → t v σ H Q
  star : ∀ {k : Nat} {sc : Sc} {e : Expr}, chk k sc e = true → notStar e = true
def gNm (i : Nat) : CG where
  ev := fun d ρ T => if i < ρ.length then .ok (ρ.set i (some (.sh d))) T else .no
  sl := [i]
  pure := true
  hp := fun _ d ρ T ρ1 T1 h => by
    split at h
    · cases h
      exact ⟨List.length_set, fun j hj => List.getElem?_set_ne fun e => hj (by simp [e])⟩
    · cases h
  z := false
  chk := fun _ sc e => match e with
    | .Name x _ => okStore sc i x
    | _ => false
  need := fun _ => True
  ok := by
    intro Γ k W sc X e n g _ h _
    split at h
    · obtain ⟨s1, s2, s3⟩ := okStore_ok g h
      refine ⟨_, pg_name g.nd s1 s2 s3, fun σ H I ρ T own d v Q w er r p => ?_⟩
      split at p
      · rename_i hi
        obtain ⟨own', af⟩ := store_aft (as := []) er hi Ext.refl w (show RepL Γ n I H (.sh d) v [] from ⟨rfl, r⟩) (by simp)
        exact p _ _ _ _ af .one fun _ => Ext.refl
      · exact p.elim
    · cases h
  star := fun {k sc e} h => by
    cases e <;> first | rfl | cases h
/-- l[i] = d, l a local's own list, or a cell -/
def setAt (xs : List D) (r : R) (d : D) : Option (List D) := match r with
  | .v (.sh (.int i)) => (ixN xs.length i).map fun p => xs.set p d
  | _ => none
section
variable {Γ : Gam}
theorem Ext.cell {O : Addr → Prop} {H : Hp} {I : Im} {a : Addr} {o' : HO} (h : a ∈ I.κ) : Ext O H I (upd H a o') I :=
  ⟨fun _ _ h => h, fun _ _ h => h, fun b u q nk _ => by
    rw [upd_ne (fun e => nk (by rw [e]; exact h))]; exact q, fun b q => by
    by_cases e : b = a
    · subst e; rw [upd_same]; simp
    · rw [upd_ne e]; exact q, fun _ h => .inl h, fun _ h => .inl h, rfl⟩
theorem Wf.cell {H : Hp} {I : Im} {T : Cs} {m : Nat} {a : Addr} {ds : List D} {vs : List V} (w : Wf Γ H I T) (h : I.κ[m]? = some a) (r : Reps Γ I ds vs) : Wf Γ (upd H a (.lst vs)) I (T.set m ds) := by
  have ha : a ∈ I.κ := List.mem_of_getElem? h
  refine ⟨fun b u q => ?_, w.nd, w.kg, by rw [List.length_set]; exact w.len, fun m2 b ds2 e1 e2 => ?_⟩
  · rw [upd_ne (ne_of_none q (w.kg a ha))]
    exact w.gh b u q
  · by_cases hm : m = m2
    · subst hm
      rw [h] at e1; cases e1
      have hl : m < T.length := by rw [← w.len]; exact (List.getElem?_eq_some_iff.mp h).1
      rw [List.getElem?_set_self hl] at e2
      cases e2
      exact ⟨vs, upd_same, r⟩
    · rw [List.getElem?_set_ne hm] at e2
      obtain ⟨us, h1, h2⟩ := w.cells m2 b ds2 e1 e2
      refine ⟨us, ?_, h2⟩
      rw [upd_ne]
      · exact h1
      · rintro rfl
        exact hm ((List.getElem?_inj (List.getElem?_eq_some_iff.mp h).1 w.nd).mp (h.trans e1.symm))
theorem setAt_ok {n : Nat} {own : Nat → List Addr} {H0 H : Hp} {I : Im} {xs ys : List D} {vs : List V} {r : R} {d : D} {iv v : V} (e : setAt xs r d = some ys) (q : RepR Γ n own H0 H I r iv) (rx : Reps Γ I xs vs) (rv : Rep Γ I d v) :
    ∃ k j, iv = .int k ∧ ixN vs.length k = some j ∧ Reps Γ I ys (vs.set j v) := by
  unfold setAt at e
  split at e
  · obtain ⟨j, e1, rfl⟩ := Option.map_eq_some_iff.mp e
    exact ⟨_, j, q.unsh.int, by rw [rx.length]; exact e1, Reps.set rv rx⟩
  · cases e
end
def gIx (j : Nat) (a : CE) : CG where
  ev := fun d ρ T => match ρ[j]? with
    | some (some (.ow xs)) => (a.ev ρ T).bind fun r T1 => (match setAt xs r d with
      | some ys => .ok (ρ.set j (some (.ow ys))) T1
      | none => .no)
    | some (some (.sh (.cell m))) => (a.ev ρ T).bind fun r T1 => (match T1[m]? with
      | some xs => (match setAt xs r d with
        | some ys => .ok ρ (T1.set m ys)
        | none => .no)
      | none => .no)
    | _ => .no
  sl := []
  pure := false
  hp := fun h => by cases h
  chk := fun k sc e => match e with
    | .Subscript (.Name x _) i _ => isVar sc j x && (notSlice i && a.chk k sc i)
    | _ => false
  need := a.need
  z := a.z
  ok := by
    intro Γ k W sc X e n g nd h hz
    split at h
    · rename_i x px i pos
      obtain ⟨h1, h⟩ := b2 h
      obtain ⟨h2, h3⟩ := b2 h
      refine ⟨_, pg_sub (isVar_ok g h1) (a.ok (n := n) g nd h3 hz) set_list (by
        intro v
        cases i <;> first | rfl | cases h2), fun σ H I ρ T own d v Q w er r p => ?_⟩
      split at p
      · rename_i xs e1
        obtain ⟨b, vs, o1, o2, o3, o4⟩ := own_list er e1
        refine ⟨_, o2, I, ρ, T, own, w, er, (PostG.step (rel := RepR Γ n own) p Ext.refl).imp fun iv H1 q1 => ?_⟩
        obtain ⟨r1, T1, I1, _, x1, w1, r1', p1⟩ := q1
        split at p1
        · rename_i ys e2
          obtain ⟨f1, f2, f3⟩ := er.free j b (by rw [o1]; simp)
          have o3' : H1 b = some (.lst vs) := x1.fr _ _ o3 f2 fun z => z
          obtain ⟨k', j', rfl, hk, ry⟩ := setAt_ok e2 r1' (o4.mono x1.le) (r.mono x1.le)
          refine ⟨b, vs, k', j', rfl, rfl, o3', hk, ?_⟩
          exact p1 σ _ I1 own (write_aft er x1 w1 e1 o1 o2 ⟨b, _, rfl, rfl, upd_same, ry⟩) .refl fun z => by cases z
        · exact p1.elim
      · rename_i m e1
        obtain ⟨v0, o2, o3⟩ := er.at_ j _ e1
        have o4 := o3.2
        simp only [Rep] at o4
        obtain ⟨b, rfl, o5⟩ := o4
        refine ⟨_, o2, I, ρ, T, own, w, er, (PostG.step (rel := RepR Γ n own) p Ext.refl).imp fun iv H1 q1 => ?_⟩
        obtain ⟨r1, T1, I1, _, x1, w1, r1', p1⟩ := q1
        split at p1
        · rename_i xs e3
          split at p1
          · rename_i ys e2
            have o6 := x1.kk _ _ o5
            obtain ⟨vs, c1, c2⟩ := w1.cells m b xs o6 e3
            obtain ⟨k', j', rfl, hk, ry⟩ := setAt_ok e2 r1' c2 (r.mono x1.le)
            refine ⟨b, vs, k', j', rfl, rfl, c1, hk, ?_⟩
            have xc : Ext O0 H1 I1 (upd H1 b (.lst (vs.set j' v))) I1 := Ext.cell (List.mem_of_getElem? o6)
            exact p1 σ _ I1 own ⟨(x1.tr0 xc).mono fun _ q => q.elim, w1.cell o6 ry, (er.ext x1).ext xc, fun _ z => .inl z⟩ .refl fun z => by cases z
          · exact p1.elim
        · exact p1.elim
      · exact p.elim
    · cases h
  star := fun {k sc e} h => by
    cases e <;> first | rfl | cases h
end Tp
end
section
set_option Elab.async false
set_option linter.all false
set_option maxRecDepth 100000
set_option maxHeartbeats 2000000
/-! TpL: tuples of targets, assignment. -/
namespace Tp
open PySem PySem.Spec PyProof.Rows L2

/-! ### several targets -/
def evGs : List CG → List D → Env → Cs → Ev Env
  | [], [], ρ, T => .ok ρ T
  | g :: gs, d :: ds, ρ, T => (g.ev d ρ T).bind fun ρ1 T1 => evGs gs ds ρ1 T1
  | _, _, _, _ => .no
def chkGs : List CG → Nat → Sc → List Expr → Bool
  | [], _, _, es => es.isEmpty
  | g :: gs, k, sc, es => match es with
    | e :: es => g.chk k sc e && chkGs gs k sc es
    | [] => false
def slGs : List CG → List Nat
  | [] => []
  | g :: gs => g.sl ++ slGs gs
def purGs : List CG → Bool
  | [] => true
  | g :: gs => g.pure && purGs gs
theorem purGs_ok : ∀ {gs : List CG}, purGs gs = true → ∀ ds ρ T ρ1 T1, evGs gs ds ρ T = .ok ρ1 T1 → ρ1.length = ρ.length ∧ ∀ j, j ∉ slGs gs → ρ1[j]? = ρ[j]?
  | [], _, [], ρ, T, ρ1, T1, h => by cases h; exact ⟨rfl, fun _ _ => rfl⟩
  | [], _, _ :: _, ρ, T, ρ1, T1, h => by cases h
  | _ :: _, _, [], ρ, T, ρ1, T1, h => by cases h
  | g :: gs, hp, d :: ds, ρ, T, ρ1, T1, h => by
    obtain ⟨h1, h2⟩ := b2 hp
    have h' : ((g.ev d ρ T).bind fun ρ1 T1 => evGs gs ds ρ1 T1) = .ok ρ1 T1 := h
    cases e : g.ev d ρ T with
    | no => rw [e] at h'; cases h'
    | ex x T' => rw [e] at h'; cases h'
    | ok ρ2 T2 =>
      rw [e] at h'
      obtain ⟨i1, i2⟩ := g.hp h1 d ρ T ρ2 T2 e
      obtain ⟨i3, i4⟩ := purGs_ok h2 ds ρ2 T2 ρ1 T1 h'
      exact ⟨i3.trans i1, fun j hj => (i4 j fun z => hj (List.mem_append.mpr (.inr z))).trans (i2 j fun z => hj (List.mem_append.mpr (.inl z)))⟩
def zGs : List CG → Bool
  | [] => false
  | g :: gs => g.z || zGs gs
def needGs : List CG → Gam → Prop
  | [], _ => True
  | g :: gs, Γ => g.need Γ ∧ needGs gs Γ
theorem asg_cons {e : Expr} {es : List Expr} {env : PySem.Env} (h : notStar e = true) : assignEach (e :: es) env = (false, assign e env) :: assignEach es env := by
  cases e <;> first | rfl | cases h
theorem asg_star : ∀ {gs : List CG} {k : Nat} {sc : Sc} {es : List Expr} {env : PySem.Env}, chkGs gs k sc es = true → (assignEach es env).length = gs.length ∧ (assignEach es env).findIdx? (·.1) = none
  | [], _, _, [], _, _ => ⟨rfl, rfl⟩
  | [], _, _, _ :: _, _, h => by cases h
  | _ :: _, _, _, [], _, h => by cases h
  | g :: gs, k, sc, e :: es, env, h => by
    obtain ⟨h1, h2⟩ := b2 h
    obtain ⟨i1, i2⟩ := asg_star (env := env) h2
    rw [asg_cons (g.star h1)]
    refine ⟨by rw [List.length_cons, i1]; rfl, ?_⟩
    rw [List.findIdx?_cons, i2]
    rfl
theorem evGs_ok {Γ : Gam} {k : Nat} {W : WX} {sc : Sc} {X : Cx} {n : Nat} (g : Good Γ k W sc X) : ∀ {gs : List CG} {es : List Expr}, needGs gs Γ → chkGs gs k sc es = true → (zGs gs = true → n = X.s_0.heap.objs.size) → ∃ t : TGs, PGs X es t ∧
    ∀ (σ : L2.St) (H : Hp) (I : Im) (ρ : Env) (T : Cs) (own : Nat → List Addr) (ds : List D) (vs : List V) (Q : L2.St → Hp → Prop), Wf Γ H I T → ER Γ n σ ρ H I own → Reps Γ I ds vs → PostG Γ n W (Ow own) (slGs gs) (purGs gs) σ H I (evGs gs ds ρ T) Q → t vs σ H Q
  | [], [], _, _, _ => ⟨_, pgs_nil, fun σ H I ρ T own ds vs Q w er r p => by
      cases ds with
      | nil =>
        simp only [Reps] at r
        exact ⟨r, p σ H I own (aft_refl w er) .refl fun _ => Ext.refl⟩
      | cons a b => exact p.elim⟩
  | [], _ :: _, _, h, _ => by cases h
  | _ :: _, [], _, h, _ => by cases h
  | a :: gs, e :: es, nd, h, hz => by
    obtain ⟨h1, h2⟩ := b2 h
    obtain ⟨t1, p1, k1⟩ := a.ok g nd.1 h1 (or1 hz).1
    obtain ⟨t2, p2, k2⟩ := evGs_ok g nd.2 h2 (or1 hz).2
    refine ⟨_, pgs_cons p1 p2 (by rw [asg_cons (a.star h1)]; rfl), fun σ H I ρ T own ds vs Q w er r p => ?_⟩
    cases ds with
    | nil => exact p.elim
    | cons d ds =>
      simp only [Reps] at r
      obtain ⟨v, us, rfl, r1, r2⟩ := r
      refine ⟨v, us, rfl, k1 σ H I ρ T own d v _ w er r1 ?_⟩
      have p' : PostG Γ n W (Ow own) (a.sl ++ slGs gs) (a.pure && purGs gs) σ H I ((a.ev d ρ T).bind fun ρ1 T1 => evGs gs ds ρ1 T1) Q := p
      cases e2 : a.ev d ρ T with
      | no => rw [e2] at p'; exact p'
      | ex x T1 => rw [e2] at p'; exact p'
      | ok ρ1 T1 =>
        rw [e2] at p'
        intro σ' H' I' own' af c1 xo
        exact k2 σ' H' I' ρ1 T1 own' ds us Q af.wf af.er (r2.mono af.ext.le) (PostG.from af.ext af.ow c1 xo p')
def gTp (gs : List CG) : CG where
  ev := fun d ρ T => match d with
    | .tup ds => if ds.length = gs.length then evGs gs ds ρ T else .no
    | _ => .no
  sl := slGs gs
  pure := purGs gs
  hp := fun h d ρ T ρ1 T1 e => by
    split at e
    · split at e
      · exact purGs_ok h _ _ _ _ _ e
      · cases e
    · cases e
  z := zGs gs
  chk := fun k sc e => match e with
    | .Tuple es _ _ => chkGs gs k sc es
    | _ => false
  need := needGs gs
  ok := by
    intro Γ k W sc X e n g nd h hz
    split at h
    · rename_i es _ _
      obtain ⟨t, p1, k1⟩ := evGs_ok g nd h hz
      obtain ⟨s1, s2⟩ := asg_star (env := X.env) h
      refine ⟨_, pg_tup g.calm p1 s1 s2, fun σ H I ρ T own d v Q w er r p => ?_⟩
      split at p
      · rename_i ds
        obtain ⟨a, vs, rfl, q1, q2⟩ := r.tup
        split at p
        · rename_i hl
          exact ⟨a, vs, rfl, by rw [g.K]; exact SqT.ext w.gh q1, by rw [q2.length, hl], k1 σ H I ρ T own ds vs Q w er q2 p⟩
        · exact p.elim
      · exact p.elim
    · cases h
  star := fun {k sc e} h => by
    cases e <;> first | rfl | cases h
/-! ### target = value, the stores in order -/
def isStar : Expr → Bool
  | .Starred .. => true
  | _ => false
/-- for sure not stored from the right -/
def noSw (tg e : Expr) (nm : List (Str × NameKind)) : Bool := match tg with
  | .Name .. => true
  | .Subscript .. => true
  | .Tuple ts _ _ => (match e with
    | .Tuple vs _ _ => !(ts.length == 2 || ts.length == 3) || ((ts.filterMap fun
        | .Name id pos => if nm.lookup id == some .local && pos.line == (ts.head?.map (·.pos.line)).getD 0 then some id else none
        | _ => none).length != ts.length) || vs.all (foldedForSure 8)
    | _ => true)
  | _ => false
theorem noSw_ok {tg e : Expr} {env : PySem.Env} {nm : List (Str × NameKind)} (he : env.scope.names = nm) (h : noSw tg e nm = true) : swappedStores [tg] e env = pure none ∧ (assignEach [tg] env).map (·.2) = [assign tg env] := by
  subst he
  unfold noSw at h
  split at h
  · exact ⟨rfl, rfl⟩
  · exact ⟨rfl, rfl⟩
  · refine ⟨?_, rfl⟩
    split at h
    · rename_i ts _ _ vs _ _
      unfold swappedStores
      simp only
      rcases Bool.or_eq_true_iff.mp h with q' | q'
      · rcases Bool.or_eq_true_iff.mp q' with q | q
        · rw [q]; rfl
        · split
          · rfl
          · split
            · rfl
            · split
              · rfl
              · rename_i q2
                exact absurd (by rw [Bool.or_eq_true_iff]; exact .inl q) q2
      · split
        · rfl
        · split
          · rfl
          · split
            · rfl
            · first | rfl | (split <;> first | rfl | (rename_i q3; exact absurd q' q3)) | (rw [q']; rfl)
    · rename_i q
      unfold swappedStores
      cases e <;> first | rfl | exact absurd rfl (q _ _ _)
  · cases h
def isSub : Expr → Bool
  | .Subscript .. => true
  | _ => false
theorem notSw_ok {tg e : Expr} (h : (notComp e || isSub tg) = true) (l : Nat) (env : PySem.Env) : swapsWithSole [tg] e l env = pure false := by
  rcases Bool.or_eq_true_iff.mp h with q | q
  · exact notComp_ok q _ _ _
  · cases tg <;> first | (cases e <;> rfl) | cases q
def sAsgG (t : CG) (a : CE) : C1 where
  ev := fun ρ T => (evD a.ev ρ T).bind fun d T1 => (t.ev d ρ T1).bind fun ρ' T2 => .ok (.nx ρ') T2
  chk := fun k sc st => match st with
    | .Assign [tg] e _ => noSw tg e sc.nm && ((notComp e || isSub tg) && (t.chk k sc tg && a.chk k sc e))
    | _ => false
  need := fun Γ => t.need Γ ∧ a.need Γ
  ok := by
    intro Γ k W sc X st g nd h
    split at h
    · rename_i tg e pos
      obtain ⟨h1, h⟩ := b2 h
      obtain ⟨h2, h⟩ := b2 h
      obtain ⟨h3, h4⟩ := b2 h
      obtain ⟨w1, w2⟩ := noSw_ok g.nm h1
      obtain ⟨tt, p1, k1⟩ := t.ok (n := X.s_0.heap.objs.size) g nd.1 h3 fun _ => rfl
      refine PS.mono (ps_asg (a.ok (n := X.s_0.heap.objs.size) g nd.2 h4 fun _ => rfl) p1 (notSw_ok h2 _ _) w1 w2) fun D σ H q => ?_
      obtain ⟨I, ρ, T, own, w, er, p⟩ := q
      refine ⟨I, ρ, T, own, w, er, Post.toD ((PostS.step (rel := relD Γ) (show PostS Γ X.s_0.heap.objs.size W D (Ow own) H I _ from p) Ext.refl).imp fun v H1 q1 => ?_)⟩
      obtain ⟨d, T1, I1, _, x1, w1, r1, p1⟩ := q1
      refine k1 σ H1 I1 ρ T1 own d v _ w1 (er.ext x1) r1 ?_
      have p2 : PostS Γ X.s_0.heap.objs.size W D (Ow own) H1 I1 _ := PostS.from (x1.mono fun _ q => q.elim) (fun a h => .inl h) p1
      cases e2 : t.ev d ρ T1 with
      | no => rw [e2] at p2; exact p2
      | ex x T2 => rw [e2] at p2; exact p2
      | ok ρ1 T2 => rw [e2] at p2; exact fun σ' H' I' own' a _ _ => p2 σ' H' I' own' a
    · cases h

/-! ### several names at once, stored from the right: what is kept is each one's own -/
section
variable (Γ : Gam) (n : Nat)
def RepLs (Hs H : Hp) (I : Im) : List LV → List V → List (List Addr) → Prop
  | [], vs, ass => vs = [] ∧ ass = []
  | l :: ls, vs, ass => ∃ v us as r, vs = v :: us ∧ ass = as :: r ∧ RepL Γ n I H l v as ∧ (∀ a, a ∈ as → I.G a = none ∧ a ∉ I.κ ∧ H a ≠ none ∧ Hs a = none) ∧ (∀ a, a ∈ as → ∀ b, b ∈ r → a ∉ b) ∧ RepLs Hs H I ls us r
def relLs (Hs H : Hp) (I : Im) (ls : List LV) (vs : List V) : Prop := ∃ ass, RepLs Γ n Hs H I ls vs ass
def tLs (W : WX) (ev : Env → Cs → Ev (List LV)) : TA := fun σ H Q => ∃ I ρ T own, Wf Γ H I T ∧ ER Γ n σ ρ H I own ∧ Post Γ (relLs Γ n) W σ H I (ev ρ T) Q
end
section
variable {Γ : Gam} {n : Nat}
theorem RepLs.ext {Hs H H' : Hp} {I I' : Im} (e : Ext O0 H I H' I') : ∀ {ls : List LV} {vs : List V} {ass : List (List Addr)}, RepLs Γ n Hs H I ls vs ass → RepLs Γ n Hs H' I' ls vs ass
  | [], _, _, h => h
  | _ :: _, _, _, ⟨v, us, as, r, h1, h2, h3, h4, h5, h6⟩ => ⟨v, us, as, r, h1, h2, h3.ext e.le (fun a o ha q => e.fr a o q (h4 a ha).2.1 fun z => z), fun a ha => by
    obtain ⟨q1, q2, q3, q4⟩ := h4 a ha
    obtain ⟨p1, p2, p3⟩ := e.apart q1 q2 q3 fun z => z
    exact ⟨p1, p2, p3, q4⟩, h5, h6.ext e⟩
theorem RepLs.back {Hs H0 H : Hp} {I : Im} (h : ∀ a, Hs a ≠ none → H0 a ≠ none) : ∀ {ls : List LV} {vs : List V} {ass : List (List Addr)}, RepLs Γ n H0 H I ls vs ass → RepLs Γ n Hs H I ls vs ass
  | [], _, _, q => q
  | _ :: _, _, _, ⟨v, us, as, r, h1, h2, h3, h4, h5, h6⟩ => ⟨v, us, as, r, h1, h2, h3, fun a ha => by
    obtain ⟨q1, q2, q3, q4⟩ := h4 a ha
    refine ⟨q1, q2, q3, ?_⟩
    cases e : Hs a with
    | none => rfl
    | some o => exact absurd q4 (h a (by rw [e]; simp)), h5, h6.back h⟩
theorem RepLs.new {Hs H : Hp} {I : Im} : ∀ {ls : List LV} {vs : List V} {ass : List (List Addr)}, RepLs Γ n Hs H I ls vs ass → ∀ b, b ∈ ass → ∀ a, a ∈ b → Hs a = none
  | [], _, _, ⟨_, rfl⟩, b, hb, _, _ => by cases hb
  | _ :: _, _, _, ⟨v, us, as, r, h1, h2, h3, h4, h5, h6⟩, b, hb, a, ha => by
    subst h2
    rcases List.mem_cons.mp hb with q | q
    · subst q; exact (h4 a ha).2.2.2
    · exact h6.new b q a ha
theorem backLs : Backs (relLs Γ n) := ⟨fun h ⟨ass, q⟩ => ⟨ass, q.back h⟩⟩
end
/-- arguments to be stored; keep: its own list stays its own -/
structure CK where
  ev : Env → Cs → Ev (List LV)
  len : Nat
  chk : Nat → Sc → List Expr → Bool
  need : Gam → Prop
  ok : ∀ {Γ : Gam} {k : Nat} {W : WX} {sc : Sc} {X : Cx} {e : List Expr}, Good Γ k W sc X → need Γ → chk k sc e = true → PA X e (tLs Γ X.s_0.heap.objs.size W ev)
  star : ∀ {k : Nat} {sc : Sc} {e : List Expr}, chk k sc e = true → ∀ x, x ∈ e → notStar x = true
  hlen : ∀ {ρ : Env} {T T' : Cs} {ls : List LV}, ev ρ T = .ok ls T' → ls.length = len
def kNil : CK where
  ev := fun _ T => .ok [] T
  len := 0
  chk := fun _ _ es => es.isEmpty
  need := fun _ => True
  ok := by
    intro Γ k W sc X e g _ h
    cases e with
    | cons a b => cases h
    | nil => exact PA.mono pa_nil fun σ H Q ⟨I, ρ, T, own, w, er, p⟩ => p [] H I Ext.refl w ⟨[], rfl, rfl⟩
  star := fun {k sc e} h => by
    cases e with
    | cons a b => cases h
    | nil => simp
  hlen := fun {ρ T T' ls} h => by cases h; rfl
def kCons (keep : Bool) (a : CE) (r : CK) : CK where
  ev := fun ρ T => (a.ev ρ T).bind fun x T1 => match asLV keep x with
    | some lv => (r.ev ρ T1).bind fun ls T2 => .ok (lv :: ls) T2
    | none => .no
  len := r.len + 1
  chk := fun k sc es => match es with
    | e :: es => notStar e && (a.chk k sc e && r.chk k sc es)
    | _ => false
  need := fun Γ => a.need Γ ∧ r.need Γ
  ok := by
    intro Γ k W sc X e g nd h
    split at h
    · obtain ⟨h0, h⟩ := b2 h
      obtain ⟨h1, h2⟩ := b2 h
      refine PA.mono (pa_cons (a.ok (n := X.s_0.heap.objs.size) g nd.1 h1 fun _ => rfl) (r.ok g nd.2 h2) (star_cons h0)) fun σ H Q q => ?_
      obtain ⟨I, ρ, T, own, w, er, p⟩ := q
      refine ⟨I, ρ, T, own, w, er, (Post.step (rel := RepR Γ X.s_0.heap.objs.size own) p Ext.refl).imp fun x H1 q1 => ?_⟩
      obtain ⟨d, T1, I1, _, x1, w1, r1, p1⟩ := q1
      split at p1
      · rename_i lv e1
        obtain ⟨I2, as, x2, w2, le, l2, f2⟩ := asLV_ok x1 w1 e1 r1
        refine ⟨I2, ρ, T1, own, w2, er.ext x2, (Post.step (rel := relLs Γ X.s_0.heap.objs.size) p1 x2).imp fun xs H2 q2 => ?_⟩
        obtain ⟨ds, T2, I3, _, x3, w3, ⟨ass, r2⟩, p2⟩ := q2
        refine p2 (x :: xs) H2 I3 (x2.tr0 x3) w3 ⟨as :: ass, x, xs, as, ass, rfl, rfl, l2.ext x3.le (fun a o ha q => x3.fr a o q (f2 a ha).2.1 fun z => z), fun a ha => ?_, fun a ha b hb hab => ?_, r2.back x2.th⟩
        · obtain ⟨q1, q2, q3, q4⟩ := f2 a ha
          obtain ⟨p1, p2, p3⟩ := x3.apart q1 q2 q3 fun z => z
          exact ⟨p1, p2, p3, q4⟩
        · exact (f2 a ha).2.2.1 (r2.new b hb a hab)
      · exact p1.elim
    · cases h
  star := fun {k sc e} h => by
    cases e with
    | nil => cases h
    | cons e es =>
      obtain ⟨h0, h⟩ := b2 h
      obtain ⟨h1, h2⟩ := b2 h
      intro x hx
      rcases List.mem_cons.mp hx with q | q
      · rw [q]; exact h0
      · exact r.star h2 x q
  hlen := fun {ρ T T' ls} h => by
    cases e : a.ev ρ T with
    | no => rw [e] at h; cases h
    | ex x T1 => rw [e] at h; cases h
    | ok x T1 =>
      rw [e] at h
      have h' : (match asLV keep x with
        | some lv => (r.ev ρ T1).bind fun ls T2 => .ok (lv :: ls) T2
        | none => .no) = Ev.ok ls T' := h
      split at h'
      · cases e2 : r.ev ρ T1 with
        | no => rw [e2] at h'; cases h'
        | ex x T1 => rw [e2] at h'; cases h'
        | ok ls2 T2 =>
          rw [e2] at h'
          cases h'
          rw [List.length_cons, r.hlen e2]
      · cases h'
def setAll {α : Type} (σ : List (Option α)) : List Nat → List α → List (Option α)
  | i :: is, v :: vs => setAll (σ.set i (some v)) is vs
  | _, _ => σ
theorem setAll_len {α : Type} : ∀ {is : List Nat} {vs : List α} {σ : List (Option α)}, (setAll σ is vs).length = σ.length
  | [], _, _ => by unfold setAll; rfl
  | _ :: _, [], _ => by unfold setAll; rfl
  | i :: is, v :: vs, σ => by unfold setAll; rw [setAll_len, List.length_set]
theorem storeLs {Γ : Gam} {n : Nat} {H0 H : Hp} {I : Im} : ∀ {is : List Nat} {ls : List LV} {vs : List V} {ass : List (List Addr)} {σ : L2.St} {ρ : Env} {own : Nat → List Addr}, ER Γ n σ ρ H I own → RepLs Γ n H0 H I ls vs ass → (∀ i, i ∈ is → i < ρ.length) →
    (∀ b, b ∈ ass → ∀ a, a ∈ b → ∀ j, a ∉ own j) → ∃ own', ER Γ n (setAll σ is vs) (setAll ρ is ls) H I own' ∧ ∀ a, Ow own' a → Ow own a ∨ ∃ b, b ∈ ass ∧ a ∈ b
  | [], _, _, _, σ, ρ, own, er, _, _, _ => ⟨own, by unfold setAll; exact er, fun a h => .inl h⟩
  | i :: is, [], _, _, σ, ρ, own, er, ⟨rfl, _⟩, _, _ => ⟨own, by unfold setAll; exact er, fun a h => .inl h⟩
  | i :: is, l :: ls, _, _, σ, ρ, own, er, ⟨v, us, as, r, rfl, rfl, h3, h4, h5, h6⟩, hi, hd => by
    have er2 := er.set (i := i) (O := O0) (hi i (by simp)) Ext.refl (fun _ _ _ _ q => q.elim) h3 (fun a ha => ⟨(h4 a ha).1, (h4 a ha).2.1, (h4 a ha).2.2.1⟩) (fun j a _ ha hj => hd as (by simp) a ha j hj)
    obtain ⟨own', e1, e2⟩ := storeLs (is := is) er2 h6 (fun j hj => by rw [List.length_set]; exact hi j (by simp [hj])) (fun b hb a ha j hj => by
      have hj' : a ∈ (if j = i then as else own j) := hj
      split at hj'
      · exact h5 a hj' b hb ha
      · exact hd b (by simp [hb]) a ha j hj')
    refine ⟨own', by unfold setAll; exact e1, fun a h => ?_⟩
    rcases e2 a h with ⟨j, q⟩ | ⟨b, hb, q⟩
    · have q' : a ∈ (if j = i then as else own j) := q
      split at q'
      · exact .inr ⟨as, by simp, q'⟩
      · exact .inl ⟨j, q'⟩
    · exact .inr ⟨b, by simp [hb], q⟩
/-- plain local, stands in slot i -/
def okPlain (sc : Sc) (i : Nat) (x : Str) : Bool := slotIs sc.N i x && decide (sc.nm.lookup x = some .local)
theorem notT {b : Bool} (h : (!b) = true) : b = false := by cases b <;> first | rfl | cases h
def swRest (vs : List Expr) : Bool := !(vs.all (foldedForSure 8)) && !(vs.all (constantsAlone 8))
theorem blockFn {Γ : Gam} {k : Nat} {W : WX} {sc : Sc} {X : Cx} (g : Good Γ k W sc X) : X.env.blockKind = .function := by
  unfold PySem.Env.blockKind
  rw [g.fk]
  rfl
theorem any_no {f : Expr → Bool} {vs : List Expr} (hf : ∀ e, notStar e = true → f e = false) (h : ∀ x, x ∈ vs → notStar x = true) : vs.any f = false := by
  rw [List.any_eq_false]
  intro x hx q
  rw [hf x (h x hx)] at q
  cases q
theorem sw2_ok {x y : Str} {px py pt pt2 : Pos} {kt k2} {a b : Expr} {env : PySem.Env} (hb : env.blockKind = .function) (l1 : env.kindOf x = some .local) (l2 : env.kindOf y = some .local) (hxy : x ≠ y) (hp : (px.line == py.line) = true) (hs : ∀ x, x ∈ [a, b] → notStar x = true)
    (h5 : ([a, b] : List Expr).all (foldedForSure 8) = false) (h6 : ([a, b] : List Expr).all (constantsAlone 8) = false) : swappedStores [.Tuple [.Name x px, .Name y py] kt pt] (.Tuple [a, b] k2 pt2) env = pure (some [x, y]) := by
  have e4 : (y == x) = false := by
    cases q : y == x with
    | false => rfl
    | true => exact absurd (eq_of_beq q).symm hxy
  have hpp : py.line = px.line := (eq_of_beq hp).symm
  unfold swappedStores
  simp only [List.length_cons, List.length_nil, hb, List.filterMap_cons, List.filterMap_nil, l1, l2, Expr.pos, List.head?_cons, Option.map_some, Option.getD_some, hpp, beq_self_eq_true, Bool.and_self, if_true, List.eraseDups_cons, h5, h6, List.filter_cons, List.filter_nil, e4]
  rw [any_no (fun e he => by cases e <;> first | rfl | (cases he; done)) hs]
  rfl
theorem sw3_ok {x y z : Str} {px py pz pt pt2 : Pos} {kt k2} {a b c : Expr} {env : PySem.Env} (hb : env.blockKind = .function) (l1 : env.kindOf x = some .local) (l2 : env.kindOf y = some .local) (l3 : env.kindOf z = some .local) (hxy : x ≠ y) (hxz : x ≠ z) (hyz : y ≠ z) (hp : (px.line == py.line) = true) (hp2 : (px.line == pz.line) = true) (hs : ∀ x, x ∈ [a, b, c] → notStar x = true)
    (h5 : ([a, b, c] : List Expr).all (foldedForSure 8) = false) (h6 : ([a, b, c] : List Expr).all (constantsAlone 8) = false) : swappedStores [.Tuple [.Name x px, .Name y py, .Name z pz] kt pt] (.Tuple [a, b, c] k2 pt2) env = pure (some [x, y, z]) := by
  have ne : ∀ {u v : Str}, v ≠ u → (u == v) = false := fun {u v} h => by
    cases q : u == v with
    | false => rfl
    | true => exact absurd (eq_of_beq q).symm h
  have hpp : py.line = px.line := (eq_of_beq hp).symm
  have hpp2 : pz.line = px.line := (eq_of_beq hp2).symm
  unfold swappedStores
  simp only [List.length_cons, List.length_nil, hb, List.filterMap_cons, List.filterMap_nil, l1, l2, l3, Expr.pos, List.head?_cons, Option.map_some, Option.getD_some, hpp, hpp2, beq_self_eq_true, Bool.and_self, if_true, List.eraseDups_cons, h5, h6, List.filter_cons, List.filter_nil, ne hxy, ne hxz, ne hyz]
  rw [any_no (fun e he => by cases e <;> first | rfl | (cases he; done)) hs]
  simp [List.eraseDups_cons, List.filter_cons, ne hyz]
def sPar (is : List Nat) (c : CK) : C1 where
  ev := fun ρ T => (c.ev ρ T).bind fun ls T1 => if is.all fun i => decide (i < ρ.length) then .ok (.nx (setAll ρ is ls)) T1 else .no
  chk := fun k sc st => match st with
    | .Assign [.Tuple [.Name x px, .Name y py] _ _] (.Tuple [a, b] _ _) _ => (match is with
      | [i, j] => okPlain sc i x && (okPlain sc j y && (decide (x ≠ y) && ((px.line == py.line) && (swRest [a, b] && (decide (c.len = 2) && c.chk k sc [a, b])))))
      | _ => false)
    | .Assign [.Tuple [.Name x px, .Name y py, .Name z pz] _ _] (.Tuple [a, b, d] _ _) _ => (match is with
      | [i, j, l] => okPlain sc i x && (okPlain sc j y && (okPlain sc l z && ((decide (x ≠ y) && (decide (x ≠ z) && decide (y ≠ z))) && (((px.line == py.line) && (px.line == pz.line)) && (swRest [a, b, d] && (decide (c.len = 3) && c.chk k sc [a, b, d]))))))
      | _ => false)
    | _ => false
  need := c.need
  ok := by
    intro Γ k W sc X st g nd h
    have fin : ∀ (D : Ends) (σ : L2.St) (H : Hp) (I : Im) (ρ : Env) (T : Cs) (own : Nat → List Addr), Wf Γ H I T → ER Γ X.s_0.heap.objs.size σ ρ H I own →
        PostS Γ X.s_0.heap.objs.size W D (Ow own) H I ((c.ev ρ T).bind fun ls T1 => if is.all fun i => decide (i < ρ.length) then .ok (.nx (setAll ρ is ls)) T1 else .no) →
        Post Γ (relLs Γ X.s_0.heap.objs.size) W σ H I (c.ev ρ T) fun vs H1 => vs.length = c.len ∧ D.nx (setAll σ is vs) H1 := by
      intro D σ H I ρ T own w er p
      refine (PostS.step (rel := relLs Γ X.s_0.heap.objs.size) p Ext.refl).imp fun vs H1 q1 => ?_
      obtain ⟨ls, T1, I1, e1, x1, w1, ⟨ass, r1⟩, p1⟩ := q1
      have hlv : ∀ {ls : List LV} {vs : List V} {ass : List (List Addr)}, RepLs Γ X.s_0.heap.objs.size H H1 I1 ls vs ass → vs.length = ls.length := by
        intro ls
        induction ls with
        | nil => rintro vs ass ⟨rfl, _⟩; rfl
        | cons l ls ih =>
          rintro vs ass ⟨v, us, as, r, rfl, _, _, _, _, h6⟩
          rw [List.length_cons, List.length_cons, ih h6]
      refine ⟨(hlv r1).trans (c.hlen e1), ?_⟩
      split at p1
      · rename_i hi
        have er1 := er.ext x1
        obtain ⟨own', e3, e4⟩ := storeLs (is := is) er1 r1 (fun i hi2 => of_decide_eq_true (List.all_eq_true.mp hi i hi2)) (fun b hb a ha j hj => (er.free j a hj).2.2 (r1.new b hb a ha))
        exact p1 _ _ _ own' ⟨x1.mono fun _ q => q.elim, w1, e3, fun a ha => (e4 a ha).elim .inl fun ⟨b, hb, q⟩ => .inr (r1.new b hb a q)⟩
      · exact p1.elim
    have ok1 : ∀ {i : Nat} {x : Str}, okPlain sc i x = true → X.N[i]? = some x ∧ X.env.scope.names.lookup x = some .local := fun {i x} h => by
      obtain ⟨h1, h2⟩ := b2 h
      exact ⟨by rw [g.N]; exact slotIs_ok h1, by rw [g.nm]; exact of_decide_eq_true h2⟩
    have inj : ∀ {i j : Nat} {x y : Str}, X.N[i]? = some x → X.N[j]? = some y → x ≠ y → i ≠ j := fun {i j x y} h1 h2 h3 h4 => h3 (by rw [h4, h2] at h1; exact (Option.some.inj h1).symm)
    split at h
    · rename_i x px y py kt pt a b k2 pt2 pos
      split at h
      · rename_i i j
        obtain ⟨h1, h⟩ := b2 h
        obtain ⟨h2, h⟩ := b2 h
        obtain ⟨h3, h⟩ := b2 h
        obtain ⟨h4, h⟩ := b2 h
        obtain ⟨h5, h⟩ := b2 h
        obtain ⟨hl, h6⟩ := b2 h
        obtain ⟨h5a, h5b⟩ := b2 h5
        have hl' := of_decide_eq_true hl
        obtain ⟨n1, l1⟩ := ok1 h1
        obtain ⟨n2, l2⟩ := ok1 h2
        have hxy := of_decide_eq_true h3
        refine PS.mono (ps_par g.calm g.nd n1 n2 (inj n1 n2 hxy) l1 l2 (c.ok g nd h6) ?_ rfl) fun D σ H q => ?_
        · exact sw2_ok (blockFn g) l1 l2 hxy h4 (c.star h6) (notT h5a) (notT h5b)
        · obtain ⟨I, ρ, T, own, w, er, p⟩ := q
          refine ⟨I, ρ, T, own, w, er, (fin D σ H I ρ T own w er p).imp fun vs H1 ⟨q1, q2⟩ => ?_⟩
          rw [hl'] at q1
          match vs, q1 with
          | [v1, v2], _ => exact ⟨v1, v2, rfl, q2⟩
      · cases h
    · rename_i x px y py z pz kt pt a b d k2 pt2 pos
      split at h
      · rename_i i j l
        obtain ⟨h1, h⟩ := b2 h
        obtain ⟨h2, h⟩ := b2 h
        obtain ⟨h2c, h⟩ := b2 h
        obtain ⟨h3, h⟩ := b2 h
        obtain ⟨h4, h⟩ := b2 h
        obtain ⟨h5, h⟩ := b2 h
        obtain ⟨hl, h6⟩ := b2 h
        obtain ⟨h5a, h5b⟩ := b2 h5
        obtain ⟨h4a, h4b⟩ := b2 h4
        obtain ⟨h3a, h3⟩ := b2 h3
        obtain ⟨h3b, h3c⟩ := b2 h3
        have hl' := of_decide_eq_true hl
        obtain ⟨n1, l1⟩ := ok1 h1
        obtain ⟨n2, l2⟩ := ok1 h2
        obtain ⟨n3, l3⟩ := ok1 h2c
        have hxy := of_decide_eq_true h3a
        have hxz := of_decide_eq_true h3b
        have hyz := of_decide_eq_true h3c
        refine PS.mono (ps_par3 g.calm g.nd n1 n2 n3 (inj n1 n2 hxy) (inj n1 n3 hxz) (inj n2 n3 hyz) l1 l2 l3 (c.ok g nd h6) ?_ rfl) fun D σ H q => ?_
        · exact sw3_ok (blockFn g) l1 l2 l3 hxy hxz hyz h4a h4b (c.star h6) (notT h5a) (notT h5b)
        · obtain ⟨I, ρ, T, own, w, er, p⟩ := q
          refine ⟨I, ρ, T, own, w, er, (fin D σ H I ρ T own w er p).imp fun vs H1 ⟨q1, q2⟩ => ?_⟩
          rw [hl'] at q1
          match vs, q1 with
          | [v1, v2, v3], _ => exact ⟨v1, v2, v3, rfl, q2⟩
      · cases h
    · cases h
end Tp
end
section
set_option Elab.async false
set_option linter.all false
set_option maxRecDepth 100000
set_option maxHeartbeats 2000000
/-! TpM: what is walked; for. -/
namespace Tp
open PySem PySem.Spec PyProof.Rows L2

/-- J walks the data ds, whatever comes between the turns -/
structure Walk (Γ : Gam) (J : It) (I : Im) (ds : List D) : Prop where
  go : ∀ (H : Hp) (I' : Im) (T : Cs) (i : Nat), Im.Le I I' → Wf Γ H I' T → i < ds.length → J.go i H
  yld : ∀ (H : Hp) (I' : Im) (T : Cs) (i : Nat) (d : D) (x : V) (H' : Hp), Im.Le I I' → Wf Γ H I' T → ds[i]? = some d → J.yld i H x H' → ∃ I'', Ext O0 H I' H' I'' ∧ Wf Γ H' I'' T ∧ Rep Γ I'' d x
  stop : ∀ (H : Hp) (I' : Im) (T : Cs) (i : Nat), Im.Le I I' → Wf Γ H I' T → ds.length ≤ i → J.stop i H
def relW (Γ : Gam) (_ _ : Hp) (I : Im) (ds : List D) (J : It) : Prop := Walk Γ J I ds
theorem backW {Γ : Gam} : Backs (relW Γ) := ⟨fun _ q => q⟩
def tW (Γ : Gam) (n : Nat) (W : WX) (ev : Env → Cs → Ev (List D)) : TI := fun σ H R => ∃ I ρ T own, Wf Γ H I T ∧ ER Γ n σ ρ H I own ∧ Post Γ (relW Γ) W σ H I (ev ρ T) R
theorem PI.mono {X : Cx} {tg e : Expr} {t t' : TI} (h : PI X tg e t) (m : ∀ σ H R, t' σ H R → t σ H R) : PI X tg e t' := ⟨fun pins s σ H R I q => h.run pins s σ H R I (m σ H R q)⟩
/-- what a for or a comprehension walks -/
structure CI where
  ev : Env → Cs → Ev (List D)
  chk : Nat → Sc → Expr → Expr → Bool
  need : Gam → Prop
  z : Bool
  ok : ∀ {Γ : Gam} {k : Nat} {W : WX} {sc : Sc} {X : Cx} {tg e : Expr} {n : Nat}, Good Γ k W sc X → need Γ → chk k sc tg e = true → (z = true → n = X.s_0.heap.objs.size) → PI X tg e (tW Γ n W ev)
  fs : ∀ {k : Nat} {sc : Sc} {tg e : Expr} {env : PySem.Env}, chk k sc tg e = true → ∀ x, foldedSetIterable e env x = pure x
def notSetL : Expr → Bool
  | .Set .. => false
  | _ => true
theorem notSetL_ok {e : Expr} {env : PySem.Env} (h : notSetL e = true) : ∀ x, foldedSetIterable e env x = pure x := fun x => by
  cases e <;> first | rfl | cases h
theorem Im.Le.trans {I I1 I2 : Im} (a : Im.Le I I1) (b : Im.Le I1 I2) : Im.Le I I2 := ⟨fun x o h => b.gg x o (a.gg x o h), fun n x h => b.kk n x (a.kk n x h), b.mm.trans a.mm⟩
theorem Im.Le.refl {I : Im} : Im.Le I I := ⟨fun _ _ h => h, fun _ _ h => h, rfl⟩
section
variable {Γ : Gam} {I : Im}
theorem Walk.list {a : Addr} {vs : List V} {ds : List D} (h : SqL Γ.K I.G a vs) (r : Reps Γ I ds vs) : Walk Γ (Itl Γ.K a) I ds where
  go := fun H I' T i le w hi => by
    have h' := SqL.ext w.gh (SqL.ext le.gg h)
    exact ⟨vs, vs[i]'(by rw [r.length]; exact hi), h', by simp [r.length, hi]⟩
  yld := fun H I' T i d x H' le w hd ⟨e, y⟩ => by
    subst e
    have h' := SqL.ext w.gh (SqL.ext le.gg h)
    obtain ⟨v, h1, h2⟩ := r.get hd
    have := y vs h'
    rw [h1] at this
    cases this
    exact ⟨I', Ext.refl, w, h2.mono le⟩
  stop := fun H I' T i le w hi => ⟨vs, SqL.ext w.gh (SqL.ext le.gg h), by rw [r.length]; exact hi⟩
theorem Walk.tup {a : Addr} {vs : List V} {ds : List D} (h : SqT Γ.K I.G a vs) (r : Reps Γ I ds vs) : Walk Γ (Itt Γ.K a) I ds where
  go := fun H I' T i le w hi => by
    have h' := SqT.ext w.gh (SqT.ext le.gg h)
    exact ⟨vs, vs[i]'(by rw [r.length]; exact hi), h', by simp [r.length, hi]⟩
  yld := fun H I' T i d x H' le w hd ⟨e, y⟩ => by
    subst e
    have h' := SqT.ext w.gh (SqT.ext le.gg h)
    obtain ⟨v, h1, h2⟩ := r.get hd
    have := y vs h'
    rw [h1] at this
    cases this
    exact ⟨I', Ext.refl, w, h2.mono le⟩
  stop := fun H I' T i le w hi => ⟨vs, SqT.ext w.gh (SqT.ext le.gg h), by rw [r.length]; exact hi⟩
def rangeD (lo c : Int) : Nat → List D
  | 0 => []
  | n + 1 => .int lo :: rangeD (lo + c) c n
theorem rangeD_len (lo c : Int) : ∀ n, (rangeD lo c n).length = n
  | 0 => rfl
  | n + 1 => by unfold rangeD; rw [List.length_cons, rangeD_len]
theorem rangeD_get : ∀ (n : Nat) (lo c : Int) (i : Nat) (d : D), (rangeD lo c n)[i]? = some d → d = .int (lo + (i : Nat) * c)
  | 0, _, _, _, _, h => by cases h
  | n + 1, lo, c, 0, d, h => by
    unfold rangeD at h
    simp at h
    rw [← h]; simp
  | n + 1, lo, c, i + 1, d, h => by
    unfold rangeD at h
    rw [List.getElem?_cons_succ] at h
    rw [rangeD_get n (lo + c) c i d h]
    congr 1
    have : ((i + 1 : Nat) : Int) * c = (i : Int) * c + c := by rw [Int.natCast_succ, Int.add_mul, Int.one_mul]
    rw [this]; omega
theorem Walk.rangeC {lo c : Int} {m : Nat} : Walk Γ (Itc lo c m) I (rangeD lo c m) where
  go := fun H I' T i le w hi => by rw [rangeD_len] at hi; exact hi
  yld := fun H I' T i d x H' le w hd ⟨e, y⟩ => by
    subst e
    rw [rangeD_get _ _ _ _ _ hd, y]
    exact ⟨I', Ext.refl, w, .ofInt⟩
  stop := fun H I' T i le w hi => by rw [rangeD_len] at hi; exact hi
theorem Walk.range {lo : Int} {m : Nat} : Walk Γ (Itr lo m) I (rangeD lo 1 m) where
  go := fun H I' T i le w hi => by rw [rangeD_len] at hi; exact hi
  yld := fun H I' T i d x H' le w hd ⟨e, y⟩ => by
    subst e
    rw [rangeD_get _ _ _ _ _ hd, y, Int.mul_one]
    exact ⟨I', Ext.refl, w, .ofInt⟩
  stop := fun H I' T i le w hi => by rw [rangeD_len] at hi; exact hi
/-- a new tuple at T -/
theorem newTup {H : Hp} {I' : Im} {T : Cs} {p : Addr} {ds : List D} {vs : List V} (w : Wf Γ H I' T) (hp : H p = none) (r : Reps Γ I' ds vs) : ∃ I'', Ext O0 H I' (upd H p (.tup vs)) I'' ∧ Wf Γ (upd H p (.tup vs)) I'' T ∧ Rep Γ I'' (.tup ds) (.ref p) := by
  have x : Ext O0 H I' (upd H p (.tup vs)) ⟨upd I'.G p (.tup vs), I'.κ, I'.me⟩ := Ext.newG hp (w.gnone hp)
  exact ⟨_, x, w.newG hp _, .ofTup (SqT.of upd_same) (r.mono x.le)⟩
def zipD : List D → List D → List D
  | a :: xs, b :: ys => .tup [a, b] :: zipD xs ys
  | _, _ => []
theorem zipD_get : ∀ {xs ys : List D} {i : Nat} {d : D}, (zipD xs ys)[i]? = some d → ∃ a b, xs[i]? = some a ∧ ys[i]? = some b ∧ d = .tup [a, b]
  | [], _, _, _, h => by simp [zipD] at h
  | _ :: _, [], _, _, h => by simp [zipD] at h
  | a :: xs, b :: ys, 0, d, h => by simp [zipD] at h; exact ⟨a, b, rfl, rfl, h.symm⟩
  | a :: xs, b :: ys, i + 1, d, h => by
    unfold zipD at h
    rw [List.getElem?_cons_succ] at h
    obtain ⟨u, v, h1, h2, h3⟩ := zipD_get h
    exact ⟨u, v, by simpa using h1, by simpa using h2, h3⟩
theorem zipD_len : ∀ {xs ys : List D}, (zipD xs ys).length = min xs.length ys.length
  | [], _ => by simp [zipD]
  | _ :: _, [] => by simp [zipD]
  | a :: xs, b :: ys => by
    unfold zipD
    rw [List.length_cons, zipD_len, List.length_cons, List.length_cons]
    omega
theorem Walk.zip {a b : Addr} {vs us : List V} {ds es : List D} (h : SqL Γ.K I.G a vs) (r : Reps Γ I ds vs) (h2 : SqL Γ.K I.G b us) (r2 : Reps Γ I es us) : Walk Γ (Itz Γ.K a b) I (zipD ds es) where
  go := fun H I' T i le w hi => by
    rw [zipD_len] at hi
    have h' := SqL.ext w.gh (SqL.ext le.gg h)
    have h2' := SqL.ext w.gh (SqL.ext le.gg h2)
    exact ⟨vs, us, vs[i]'(by rw [r.length]; omega), us[i]'(by rw [r2.length]; omega), h', h2', by simp, by simp⟩
  yld := fun H I' T i d x H' le w hd ⟨p, x1, y1, e1, e2, e3, k1, k2⟩ => by
    subst e1 e3
    obtain ⟨u, v, g1, g2, rfl⟩ := zipD_get hd
    obtain ⟨v1, q1, q2⟩ := r.get g1
    obtain ⟨v2, q3, q4⟩ := r2.get g2
    have z1 := k1 vs (SqL.ext w.gh (SqL.ext le.gg h))
    have z2 := k2 us (SqL.ext w.gh (SqL.ext le.gg h2))
    rw [q1] at z1; cases z1
    rw [q3] at z2; cases z2
    exact newTup w e2 (Reps.cons (q2.mono le) (Reps.cons (q4.mono le) Reps.nil))
  stop := fun H I' T i le w hi => by
    rw [zipD_len] at hi
    refine ⟨vs, us, SqL.ext w.gh (SqL.ext le.gg h), SqL.ext w.gh (SqL.ext le.gg h2), ?_⟩
    rw [r.length, r2.length]
    omega
def enumD : Int → List D → List D
  | _, [] => []
  | k, a :: xs => .tup [.int k, a] :: enumD (k + 1) xs
theorem enumD_get : ∀ {xs : List D} {k : Int} {i : Nat} {d : D}, (enumD k xs)[i]? = some d → ∃ a, xs[i]? = some a ∧ d = .tup [.int (k + (i : Nat)), a]
  | [], _, _, _, h => by simp [enumD] at h
  | a :: xs, k, 0, d, h => by simp [enumD] at h; exact ⟨a, rfl, by rw [← h]; simp⟩
  | a :: xs, k, i + 1, d, h => by
    unfold enumD at h
    rw [List.getElem?_cons_succ] at h
    obtain ⟨u, h1, h3⟩ := enumD_get h
    refine ⟨u, by simpa using h1, ?_⟩
    rw [h3]
    congr 3
    omega
theorem enumD_len : ∀ {xs : List D} {k : Int}, (enumD k xs).length = xs.length
  | [], _ => rfl
  | a :: xs, k => by unfold enumD; rw [List.length_cons, enumD_len, List.length_cons]
theorem Walk.enum {a : Addr} {vs : List V} {ds : List D} (h : SqL Γ.K I.G a vs) (r : Reps Γ I ds vs) : Walk Γ (Ite Γ.K a) I (enumD 0 ds) where
  go := fun H I' T i le w hi => by
    rw [enumD_len] at hi
    have h' := SqL.ext w.gh (SqL.ext le.gg h)
    exact ⟨vs, vs[i]'(by rw [r.length]; exact hi), h', by simp [r.length, hi]⟩
  yld := fun H I' T i d x H' le w hd ⟨p, x1, e1, e2, e3, k1⟩ => by
    subst e1 e3
    obtain ⟨u, g1, rfl⟩ := enumD_get hd
    obtain ⟨v1, q1, q2⟩ := r.get g1
    have z1 := k1 vs (SqL.ext w.gh (SqL.ext le.gg h))
    rw [q1] at z1; cases z1
    refine newTup w e2 (Reps.cons ?_ (Reps.cons (q2.mono le) Reps.nil))
    rw [Int.zero_add]
    exact .ofInt
  stop := fun H I' T i le w hi => by
    rw [enumD_len] at hi
    exact ⟨vs, SqL.ext w.gh (SqL.ext le.gg h), by rw [r.length]; exact hi⟩
end
/-! ### the walkables -/
/-- plain data that is a list (a list nobody owns) -/
def dLst : D → Option (List D)
  | .lst xs => some xs
  | .fz xs => some xs
  | _ => none
theorem dLst_ok {Γ : Gam} {I : Im} {d : D} {xs : List D} {v : V} (h : dLst d = some xs) (q : Rep Γ I d v) : ∃ a vs, v = .ref a ∧ SqL Γ.K I.G a vs ∧ Reps Γ I xs vs := by
  unfold dLst at h
  split at h
  · cases h
    obtain ⟨a, vs, h1, h2, h3⟩ := q.lst
    exact ⟨a, vs, h1, SqL.of h2, h3⟩
  · cases h; exact q.fz
  · cases h
def iLst (a : CE) : CI where
  ev := fun ρ T => (evD a.ev ρ T).bind fun d T1 => Ev.opt (dLst d) T1
  chk := fun k sc _ e => notSetL e && a.chk k sc e
  need := a.need
  z := a.z
  ok := by
    intro Γ k W sc X tg e n g nd h hz
    refine PI.mono (pi_list (a.ok g nd (b2 h).2 hz)) fun σ H R q => ?_
    obtain ⟨I, ρ, T, own, w, er, p⟩ := q
    refine ⟨I, ρ, T, own, w, er, Post.toD ((Post.bind (rel := relD Γ) backW p).imp fun x H1 q1 => ?_)⟩
    obtain ⟨d, T1, I1, _, x1, w1, r1, p1⟩ := q1
    obtain ⟨ds, e1, k1⟩ := Post.opt p1
    obtain ⟨b, vs, rfl, h2, h3⟩ := dLst_ok e1 (show Rep Γ I1 d x from r1)
    refine ⟨b, rfl, ⟨vs, by rw [g.K]; exact SqL.ext w1.gh h2⟩, ?_⟩
    rw [g.K]
    exact k1 _ H1 I1 Ext.refl w1 (Walk.list h2 h3)
  fs := fun h => notSetL_ok (b2 h).1
def iTupl (a : CE) : CI where
  ev := fun ρ T => (evD a.ev ρ T).bind fun d T1 => Ev.opt (match d with
    | .tup xs => some xs
    | _ => none) T1
  chk := fun k sc _ e => notSetL e && a.chk k sc e
  need := a.need
  z := a.z
  ok := by
    intro Γ k W sc X tg e n g nd h hz
    refine PI.mono (pi_tup (a.ok g nd (b2 h).2 hz)) fun σ H R q => ?_
    obtain ⟨I, ρ, T, own, w, er, p⟩ := q
    refine ⟨I, ρ, T, own, w, er, Post.toD ((Post.bind (rel := relD Γ) backW p).imp fun x H1 q1 => ?_)⟩
    obtain ⟨d, T1, I1, _, x1, w1, r1, p1⟩ := q1
    obtain ⟨ds, e1, k1⟩ := Post.opt p1
    split at e1
    · cases e1
      obtain ⟨b, vs, rfl, h2, h3⟩ := (show Rep Γ I1 (.tup _) x from r1).tup
      refine ⟨b, rfl, ⟨vs, by rw [g.K]; exact SqT.ext w1.gh h2⟩, ?_⟩
      rw [g.K]
      exact k1 _ H1 I1 Ext.refl w1 (Walk.tup h2 h3)
    · cases e1
  fs := fun h => notSetL_ok (b2 h).1
def bnd62 (i : Int) : Bool := decide (-4611686018427387904 ≤ i) && decide (i < 4611686018427387904)
theorem bnd62_ok {i : Int} (h : bnd62 i = true) : -(2 ^ 62) ≤ i ∧ i < 2 ^ 62 := by
  obtain ⟨h1, h2⟩ := b2 h
  have := of_decide_eq_true h1
  have := of_decide_eq_true h2
  exact ⟨by omega, by omega⟩
def evRng1 (a : Env → Cs → Ev R) : Env → Cs → Ev (List D) := fun ρ T => (a ρ T).bind fun r T1 => Ev.opt (match r with
  | .v (.sh (.int j)) => if bnd62 j then some (rangeD 0 1 j.toNat) else none
  | _ => none) T1
def iRange1 (a : CE) : CI where
  ev := evRng1 a.ev
  chk := fun k sc _ e => match e with
    | .Call (.Name x _) [y] [] _ => decide (x = ("range" : Str)) && (isGl sc.nm x && (notStar y && a.chk k sc y))
    | _ => false
  need := fun Γ => Γ.mg "range" = none ∧ a.need Γ
  z := a.z
  ok := by
    intro Γ k W sc X tg e n g nd h hz
    split at h
    · rename_i x p y pos
      obtain ⟨h1, h⟩ := b2 h
      obtain ⟨h2, h⟩ := b2 h
      obtain ⟨h4, h5⟩ := b2 h
      have hx := of_decide_eq_true h1
      subst hx
      refine PI.mono (pi_range1 (isGl_ok g.nm h2) (by rw [g.mg]; exact nd.1) (pa_cons (a.ok g nd.2 h5 hz) pa_nil (star_cons h4)) (star_cons h4)) fun σ H R q => ?_
      obtain ⟨I, ρ, T, own, w, er, p⟩ := q
      refine ⟨I, ρ, T, own, w, er, (Post.bind (rel := RepR Γ n own) backW p).imp fun x H1 q1 => ?_⟩
      obtain ⟨r, T1, I1, _, x1, w1, r1, p1⟩ := q1
      obtain ⟨out, e1, k1⟩ := Post.opt p1
      split at e1
      · split at e1
        · rename_i j _ hb
          cases e1
          obtain ⟨b1, b2⟩ := bnd62_ok hb
          exact ⟨j, by rw [r1.unsh.int], b1, b2, k1 _ H1 I1 Ext.refl w1 Walk.range⟩
        · cases e1
      · cases e1
    · cases h
  fs := fun {k sc tg e env} h x => by
    split at h
    · rfl
    · cases h
def evRng2 (a b : Env → Cs → Ev R) : Env → Cs → Ev (List D) := fun ρ T => (a ρ T).bind fun r T1 => (b ρ T1).bind fun r2 T2 => Ev.opt (match r, r2 with
  | .v (.sh (.int i)), .v (.sh (.int j)) => if bnd62 i && bnd62 j then some (rangeD i 1 (j - i).toNat) else none
  | _, _ => none) T2
def iRange2 (a b : CE) : CI where
  ev := evRng2 a.ev b.ev
  chk := fun k sc _ e => match e with
    | .Call (.Name x _) [y, y2] [] _ => decide (x = ("range" : Str)) && (isGl sc.nm x && ((notStar y && notStar y2) && (a.chk k sc y && b.chk k sc y2)))
    | _ => false
  need := fun Γ => Γ.mg "range" = none ∧ a.need Γ ∧ b.need Γ
  z := a.z || b.z
  ok := by
    intro Γ k W sc X tg e n g nd h hz
    split at h
    · rename_i x p y y2 pos
      obtain ⟨h1, h⟩ := b2 h
      obtain ⟨h2, h⟩ := b2 h
      obtain ⟨h4, h5⟩ := b2 h
      obtain ⟨h4, h4b⟩ := b2 h4
      obtain ⟨h5, h5b⟩ := b2 h5
      have hx := of_decide_eq_true h1
      subst hx
      refine PI.mono (pi_range2 (isGl_ok g.nm h2) (by rw [g.mg]; exact nd.1) (pa_cons (a.ok g nd.2.1 h5 (or1 hz).1) (pa_cons (b.ok g nd.2.2 h5b (or1 hz).2) pa_nil (star_cons h4b)) (star_cons h4)) (by rw [star_cons h4, star_cons h4b]; rfl) (star_cons h4b)) fun σ H R q => ?_
      obtain ⟨I, ρ, T, own, w, er, p⟩ := q
      refine ⟨I, ρ, T, own, w, er, (Post.bind (rel := RepR Γ n own) backW p).imp fun x H1 q1 => ?_⟩
      obtain ⟨r, T1, I1, _, x1, w1, r1, p1⟩ := q1
      refine ⟨I1, ρ, T1, own, w1, er.ext x1, (Post.bind (rel := RepR Γ n own) backW p1).imp fun y H2 q2 => ?_⟩
      obtain ⟨r2, T2, I2, _, x2, w2, r2', p2⟩ := q2
      obtain ⟨out, e1, k1⟩ := Post.opt p2
      split at e1
      · split at e1
        · rename_i i j _ _ hb
          cases e1
          obtain ⟨hb1, hb2⟩ := b2 hb
          obtain ⟨b1, b2⟩ := bnd62_ok hb1
          obtain ⟨b3, b4⟩ := bnd62_ok hb2
          exact ⟨i, j, by rw [r1.unsh.int, r2'.unsh.int], ⟨b1, b2, b3, b4⟩, k1 _ H2 I2 Ext.refl w2 Walk.range⟩
        · cases e1
      · cases e1
    · cases h
  fs := fun {k sc tg e env} h x => by
    split at h
    · rfl
    · cases h
/-- range(i, j, -1), range(i, j, c) with c at least 1 -/
def rng3 (i j c : Int) : Option (List D) :=
  if bnd62 i && bnd62 j then (if c = -1 then some (rangeD i (-1) (i - j).toNat) else none) else none
def evRng3 (a b c : Env → Cs → Ev R) : Env → Cs → Ev (List D) := fun ρ T => (a ρ T).bind fun r T1 => (b ρ T1).bind fun r2 T2 => (c ρ T2).bind fun r3 T3 => Ev.opt (match r, r2, r3 with
  | .v (.sh (.int i)), .v (.sh (.int j)), .v (.sh (.int l)) => rng3 i j l
  | _, _, _ => none) T3
def iRange3 (a b c : CE) : CI where
  ev := evRng3 a.ev b.ev c.ev
  chk := fun k sc _ e => match e with
    | .Call (.Name x _) [y, y2, y3] [] _ => decide (x = ("range" : Str)) && (isGl sc.nm x && ((notStar y && (notStar y2 && notStar y3)) && (a.chk k sc y && (b.chk k sc y2 && c.chk k sc y3))))
    | _ => false
  need := fun Γ => Γ.mg "range" = none ∧ a.need Γ ∧ b.need Γ ∧ c.need Γ
  z := a.z || (b.z || c.z)
  ok := by
    intro Γ k W sc X tg e n g nd h hz
    split at h
    · rename_i x p y y2 y3 pos
      obtain ⟨h1, h⟩ := b2 h
      obtain ⟨h2, h⟩ := b2 h
      obtain ⟨h4, h5⟩ := b2 h
      obtain ⟨h4, h4b⟩ := b2 h4
      obtain ⟨h4b, h4c⟩ := b2 h4b
      obtain ⟨h5, h5b⟩ := b2 h5
      obtain ⟨h5b, h5c⟩ := b2 h5b
      have hx := of_decide_eq_true h1
      subst hx
      have z1 := or1 hz
      have z2 := or1 z1.2
      refine PI.mono (pi_range3 (isGl_ok g.nm h2) (by rw [g.mg]; exact nd.1) (pa_cons (a.ok g nd.2.1 h5 z1.1) (pa_cons (b.ok g nd.2.2.1 h5b z2.1) (pa_cons (c.ok g nd.2.2.2 h5c z2.2) pa_nil (star_cons h4c)) (star_cons h4b)) (star_cons h4)) (star_cons h4) (by rw [star_cons h4b, star_cons h4c]; rfl)) fun σ H R q => ?_
      obtain ⟨I, ρ, T, own, w, er, p⟩ := q
      refine ⟨I, ρ, T, own, w, er, (Post.bind (rel := RepR Γ n own) backW p).imp fun x H1 q1 => ?_⟩
      obtain ⟨r, T1, I1, _, x1, w1, r1, p1⟩ := q1
      refine ⟨I1, ρ, T1, own, w1, er.ext x1, (Post.bind (rel := RepR Γ n own) backW p1).imp fun y H2 q2 => ?_⟩
      obtain ⟨r2, T2, I2, _, x2, w2, r2', p2⟩ := q2
      refine ⟨I2, ρ, T2, own, w2, (er.ext x1).ext x2, (Post.bind (rel := RepR Γ n own) backW p2).imp fun y H3 q3 => ?_⟩
      obtain ⟨r3, T3, I3, _, x3, w3, r3', p3⟩ := q3
      obtain ⟨out, e1, k1⟩ := Post.opt p3
      split at e1
      · rename_i i j l _ _ _
        unfold rng3 at e1
        split at e1
        · rename_i hb
          obtain ⟨hb1, hb2⟩ := b2 hb
          obtain ⟨b1, b2⟩ := bnd62_ok hb1
          obtain ⟨b3, b4⟩ := bnd62_ok hb2
          split at e1
          · rename_i hc
            subst hc
            cases e1
            exact ⟨i, j, -1, (i - j).toNat, by rw [r1.unsh.int, r2'.unsh.int, r3'.unsh.int], RgC.neg b1 b2 b3 b4, k1 _ H3 I3 Ext.refl w3 Walk.rangeC⟩
          · cases e1
        · cases e1
      · cases e1
    · cases h
  fs := fun {k sc tg e env} h x => by
    split at h
    · rfl
    · cases h
def isTupE : Expr → Bool
  | .Tuple .. => true
  | _ => false
/-- zip of two lists, told apart from a zip at a name -/
def iZip2 (a b : CE) : CI where
  ev := fun ρ T => (evD a.ev ρ T).bind fun x T1 => (evD b.ev ρ T1).bind fun y T2 => Ev.opt (match dLst x, dLst y with
    | some xs, some ys => some (zipD xs ys)
    | _, _ => none) T2
  chk := fun k sc tg e => match e with
    | .Call (.Name x _) [y, y2] [] _ => decide (x = ("zip" : Str)) && (isTupE tg && (isGl sc.nm x && ((notStar y && notStar y2) && (a.chk k sc y && b.chk k sc y2))))
    | _ => false
  need := fun Γ => Γ.mg "zip" = none ∧ a.need Γ ∧ b.need Γ
  z := a.z || b.z
  ok := by
    intro Γ k W sc X tg e n g nd h hz
    split at h
    · rename_i x p y y2 pos
      obtain ⟨h1, h⟩ := b2 h
      obtain ⟨ht, h⟩ := b2 h
      obtain ⟨h2, h⟩ := b2 h
      obtain ⟨h4, h5⟩ := b2 h
      obtain ⟨h4, h4b⟩ := b2 h4
      obtain ⟨h5, h5b⟩ := b2 h5
      have hx := of_decide_eq_true h1
      subst hx
      have htg : ∃ elts kk tpos, tg = .Tuple elts kk tpos := by
        cases tg <;> first | exact ⟨_, _, _, rfl⟩ | cases ht
      obtain ⟨elts, kk, tpos, rfl⟩ := htg
      refine PI.mono (pi_zip (isGl_ok g.nm h2) (by rw [g.mg]; exact nd.1) (pa_cons (a.ok g nd.2.1 h5 (or1 hz).1) (pa_cons (b.ok g nd.2.2 h5b (or1 hz).2) pa_nil (star_cons h4b)) (star_cons h4)) (star_cons h4) (by rw [star_cons h4b]; rfl)) fun σ H R q => ?_
      obtain ⟨I, ρ, T, own, w, er, p⟩ := q
      refine ⟨I, ρ, T, own, w, er, Post.toD ((Post.bind (rel := relD Γ) backW p).imp fun x H1 q1 => ?_)⟩
      obtain ⟨r, T1, I1, _, x1, w1, r1, p1⟩ := q1
      refine ⟨I1, ρ, T1, own, w1, er.ext x1, Post.toD ((Post.bind (rel := relD Γ) backW p1).imp fun y H2 q2 => ?_)⟩
      obtain ⟨r2, T2, I2, _, x2, w2, r2', p2⟩ := q2
      obtain ⟨out, e1, k1⟩ := Post.opt p2
      split at e1
      · rename_i xs ys ea eb
        cases e1
        obtain ⟨l1, vs, rfl, h2, h3⟩ := dLst_ok ea (show Rep Γ I2 r x from Rep.mono x2.le r1)
        obtain ⟨l2, us, rfl, h6, h7⟩ := dLst_ok eb (show Rep Γ I2 r2 y from r2')
        rw [g.K]
        exact ⟨l1, l2, vs, us, rfl, SqL.ext w2.gh h2, SqL.ext w2.gh h6, k1 _ H2 I2 Ext.refl w2 (Walk.zip h2 h3 h6 h7)⟩
      · cases e1
    · cases h
  fs := fun {k sc tg e env} h x => by
    split at h
    · rfl
    · cases h
def iEnum1 (a : CE) : CI where
  ev := fun ρ T => (evD a.ev ρ T).bind fun x T1 => Ev.opt ((dLst x).map (enumD 0)) T1
  chk := fun k sc tg e => match e with
    | .Call (.Name x _) [y] [] _ => decide (x = ("enumerate" : Str)) && (isTupE tg && (isGl sc.nm x && (notStar y && a.chk k sc y)))
    | _ => false
  need := fun Γ => Γ.mg "enumerate" = none ∧ a.need Γ
  z := a.z
  ok := by
    intro Γ k W sc X tg e n g nd h hz
    split at h
    · rename_i x p y pos
      obtain ⟨h1, h⟩ := b2 h
      obtain ⟨ht, h⟩ := b2 h
      obtain ⟨h2, h⟩ := b2 h
      obtain ⟨h4, h5⟩ := b2 h
      have hx := of_decide_eq_true h1
      subst hx
      have htg : ∃ elts kk tpos, tg = .Tuple elts kk tpos := by
        cases tg <;> first | exact ⟨_, _, _, rfl⟩ | cases ht
      obtain ⟨elts, kk, tpos, rfl⟩ := htg
      refine PI.mono (pi_enum (isGl_ok g.nm h2) (by rw [g.mg]; exact nd.1) (pa_cons (a.ok g nd.2 h5 hz) pa_nil (star_cons h4)) (star_cons h4)) fun σ H R q => ?_
      obtain ⟨I, ρ, T, own, w, er, p⟩ := q
      refine ⟨I, ρ, T, own, w, er, Post.toD ((Post.bind (rel := relD Γ) backW p).imp fun x H1 q1 => ?_)⟩
      obtain ⟨r, T1, I1, _, x1, w1, r1, p1⟩ := q1
      obtain ⟨out, e1, k1⟩ := Post.opt p1
      obtain ⟨xs, ea, rfl⟩ := Option.map_eq_some_iff.mp e1
      obtain ⟨l1, vs, rfl, h2, h3⟩ := dLst_ok ea (show Rep Γ I1 r x from r1)
      rw [g.K]
      exact ⟨l1, vs, rfl, SqL.ext w1.gh h2, k1 _ H1 I1 Ext.refl w1 (Walk.enum h2 h3)⟩
    · cases h
  fs := fun {k sc tg e env} h x => by
    split at h
    · rfl
    · cases h
/-! ### for -/
def forEv (g : D → Env → Cs → Ev Env) (b : Env → Cs → Ev Fl) : List D → Env → Cs → Ev Fl
  | [], ρ, T => .ok (.nx ρ) T
  | d :: ds, ρ, T => (g d ρ T).bind fun ρ1 T1 => (b ρ1 T1).bind fun f T2 => (match f with
      | .nx ρ' => forEv g b ds ρ' T2
      | .ct ρ' => forEv g b ds ρ' T2
      | .bk ρ' => .ok (.nx ρ') T2
      | .rt lv => .ok (.rt lv) T2)
def sFor (t : CG) (i : CI) (b : CS) : C1 where
  ev := fun ρ T => (i.ev ρ T).bind fun ds T1 => forEv t.ev b.ev ds ρ T1
  chk := fun k sc st => match st with
    | .For tg e body [] _ => t.chk k sc tg && (i.chk k sc tg e && b.chk k sc body)
    | _ => false
  need := fun Γ => t.need Γ ∧ i.need Γ ∧ b.need Γ
  ok := by
    intro Γ k W sc X st g nd h
    split at h
    · rename_i tg e body pos
      obtain ⟨h1, h⟩ := b2 h
      obtain ⟨h2, h3⟩ := b2 h
      obtain ⟨tt, pt, kt⟩ := t.ok (n := X.s_0.heap.objs.size) g nd.1 h1 fun _ => rfl
      refine PS.mono (ps_for g.po g.calm (i.ok (n := X.s_0.heap.objs.size) g nd.2.1 h2 fun _ => rfl) pt (b.ok g nd.2.2 h3) (i.fs h2)) fun D σ H q => ?_
      obtain ⟨I, ρ, T, own, w, er, p⟩ := q
      refine ⟨I, ρ, T, own, w, er, (PostS.step (rel := relW Γ) (show PostS Γ X.s_0.heap.objs.size W D (Ow own) H I _ from p) Ext.refl).imp fun J H1 q1 => ?_⟩
      obtain ⟨ds, T1, I1, _, x1, w1, wk, p1⟩ := q1
      have wk : Walk Γ J I1 ds := wk
      refine ⟨fun j m σ H => m = ds.length - j ∧ j ≤ ds.length ∧ ∃ I ρ T own, Im.Le I1 I ∧ Wf Γ H I T ∧ ER Γ X.s_0.heap.objs.size σ ρ H I own ∧ PostS Γ X.s_0.heap.objs.size W D (Ow own) H I (forEv t.ev b.ev (ds.drop j) ρ T),
        ⟨ds.length, by simp, Nat.zero_le _, I1, ρ, T1, own, Im.Le.refl, w1, er.ext x1, PostS.from (x1.mono fun _ q => q.elim) (fun a h => .inl h) p1⟩, ?_⟩
      rintro j m σ H ⟨rfl, hj, I, ρ, T, own, le, w, er, p⟩
      by_cases hlt : j < ds.length
      · refine .inr ⟨wk.go H I T j le w hlt, fun σ H => ∃ I ρ T own, Im.Le I1 I ∧ Wf Γ H I T ∧ ER Γ X.s_0.heap.objs.size σ ρ H I own ∧ PostS Γ X.s_0.heap.objs.size W D (Ow own) H I (forEv t.ev b.ev (ds.drop (j + 1)) ρ T),
          fun σ' H' z => ⟨ds.length - (j + 1), by omega, rfl, hlt, z⟩, fun x H' y => ?_⟩
        have hd : ds.drop j = ds[j] :: ds.drop (j + 1) := List.drop_eq_getElem_cons hlt
        rw [hd] at p
        obtain ⟨I2, x2, w2, r2⟩ := wk.yld H I T j ds[j] x H' le w (by simp [hlt]) y
        have p2 : PostS Γ X.s_0.heap.objs.size W D (Ow own) H' I2 ((t.ev ds[j] ρ T).bind _) := PostS.from (x2.mono fun _ q => q.elim) (fun a h => .inl h) p
        refine kt σ H' I2 ρ T own ds[j] x _ w2 (er.ext x2) r2 ?_
        cases e1 : t.ev ds[j] ρ T with
        | no => rw [e1] at p2; exact p2
        | ex x T' => rw [e1] at p2; exact p2
        | ok ρ1 T3 =>
          rw [e1] at p2
          intro σ3 H3 I3 own3 af _ _
          have p3 : PostS Γ X.s_0.heap.objs.size W D (Ow own3) H3 I3 ((b.ev ρ1 T3).bind _) := PostS.from af.ext af.ow p2
          refine ⟨I3, ρ1, T3, own3, af.wf, af.er, ?_⟩
          show PostS Γ X.s_0.heap.objs.size W _ (Ow own3) H3 I3 (b.ev ρ1 T3)
          have le3 : Im.Le I1 I3 := (le.trans x2.le).trans af.ext.le
          cases e2 : b.ev ρ1 T3 with
          | no => rw [e2] at p3; exact p3
          | ex x T' => rw [e2] at p3; exact p3
          | ok f T4 =>
            rw [e2] at p3
            cases f with
            | nx ρ' => exact fun σ' H' I' own' af => ⟨I', ρ', T4, own', le3.trans af.ext.le, af.wf, af.er, PostS.from af.ext af.ow p3⟩
            | ct ρ' => exact fun σ' H' I' own' af => ⟨I', ρ', T4, own', le3.trans af.ext.le, af.wf, af.er, PostS.from af.ext af.ow p3⟩
            | bk ρ' => exact p3
            | rt lv => exact p3
      · have e : j = ds.length := by omega
        subst e
        rw [List.drop_length] at p
        exact .inl ⟨wk.stop H I T _ le w (Nat.le_refl _), p σ H I own (aft_refl w er)⟩
    · cases h
end Tp
end
section
set_option Elab.async false
set_option linter.all false
set_option maxRecDepth 100000
set_option maxHeartbeats 2000000
/-! TpN: list comprehensions. -/
namespace Tp
open PySem PySem.Spec PyProof.Rows L2

abbrev W0 : WX := fun _ _ _ _ => False
def lcEv (g : D → Env → Cs → Ev Env) (c : Env → Cs → Ev Bool) (e : Env → Cs → Ev D) (ρ : Env) : List D → Cs → Ev (List D)
  | [], T => .ok [] T
  | d :: ds, T => (g d ρ T).bind fun ρ1 T1 => (c ρ1 T1).bind fun b T2 => if b then (e ρ1 T2).bind fun x T3 => (lcEv g c e ρ ds T3).bind fun r T4 => .ok (x :: r) T4 else lcEv g c e ρ ds T2
def noX {α : Type} : Ev α → Ev α
  | .ex _ _ => .no
  | r => r
theorem Ev.bind_ok {α β : Type} {x : Ev α} {f : α → Cs → Ev β} {b : β} {T : Cs} (h : x.bind f = .ok b T) : ∃ a T1, x = .ok a T1 ∧ f a T1 = .ok b T := by
  cases x with
  | no => cases h
  | ex e T => cases h
  | ok a T1 => exact ⟨a, T1, rfl, h⟩
def tGt (Γ : Gam) (n : Nat) (W : WX) (sl : List Nat) (pu : Bool) (ev : D → Env → Cs → Ev Env) : TG := fun v σ H Q => ∃ I ρ T own d, Wf Γ H I T ∧ ER Γ n σ ρ H I own ∧ Rep Γ I d v ∧ PostG Γ n W (Ow own) sl pu σ H I (ev d ρ T) Q
theorem CG.pg (a : CG) {Γ : Gam} {k : Nat} {W : WX} {sc : Sc} {X : Cx} {e : Expr} {n : Nat} (g : Good Γ k W sc X) (nd : a.need Γ) (h : a.chk k sc e = true) (hz : a.z = true → n = X.s_0.heap.objs.size) : PG X e (tGt Γ n W a.sl a.pure a.ev) := by
  obtain ⟨t, p, kt⟩ := a.ok g nd h hz
  exact ⟨fun pins s σ H v u Q I r ⟨I', ρ, T, own, d, w, er, rd, q⟩ => p.run pins s σ H v u Q I r (kt σ H I' ρ T own d v Q w er rd q)⟩
/-- a test that may lack -/
def evC : Option CT → Env → Cs → Ev Bool
  | none => fun _ T => .ok true T
  | some c => c.ev
def chkC : Option CT → Nat → Sc → List Expr → Bool
  | none, _, _, es => es.isEmpty
  | some c, k, sc, es => match es with
    | [e] => !c.z && c.chk k sc e
    | _ => false
def needC : Option CT → Gam → Prop
  | none, _ => True
  | some c, Γ => c.need Γ
def tCk (Γ : Gam) (n : Nat) (W : WX) (ev : Env → Cs → Ev Bool) : L2.TT := tT Γ n W ev
theorem PTs.mono {X : Cx} {e : List Expr} {t t' : L2.TT} (h : PTs X e t) (m : ∀ σ H Q, t' σ H Q → t σ H Q) : PTs X e t' := ⟨fun pins s σ H Q I q => h.run pins s σ H Q I (m σ H Q q)⟩
theorem evC_ok {c : Option CT} {Γ : Gam} {k : Nat} {W : WX} {sc : Sc} {X : Cx} {e : List Expr} {n : Nat} (g : Good Γ k W sc X) (nd : needC c Γ) (h : chkC c k sc e = true) : PTs X e (tT Γ n W (evC c)) := by
  cases c with
  | none =>
    cases e with
    | cons a b => cases h
    | nil => exact PTs.mono pts_nil fun σ H Q ⟨I, ρ, T, own, w, er, p⟩ => p true H I Ext.refl w rfl
  | some c =>
    match e, h with
    | [e], h =>
      obtain ⟨h1, h2⟩ := b2 h
      exact pts_one (c.ok g nd h2 fun z => by rw [z] at h1; cases h1)
    | [], h => cases h
    | a :: b :: r, h => cases h
/-- the block's names -/
def relN (names nm : List (Str × NameKind)) : List (Str × NameKind) := names.map fun (n, k) => if (k == NameKind.free && nm.lookup n == some .cell) then (n, .cell) else (n, k)
def scIn (sc : Sc) (s : Scope) : Sc := ⟨sc.N, relN s.names sc.nm, s.names⟩
theorem goodIn {Γ : Gam} {k : Nat} {W : WX} {sc : Sc} {X : Cx} (g : Good Γ k W sc X) {scope : Scope} (hk : scope.kind = .function) (s : Shared) (H : Hp) (C : Addr) (cl : List (Str × Addr)) (fp : List Addr) : Good Γ k W0 (scIn sc scope) (X.blk s H scope (compEnvC scope cl C X.env) fp) where
  prog := g.prog
  w := g.w
  K := g.K
  mg := g.mg
  base := g.base
  N := g.N
  nd := g.nd
  calm := g.calm
  room := g.room
  gd := g.gd
  nm := by
    show (relabel scope X.env).names = relN scope.names sc.nm
    unfold relabel relN PySem.Env.kindOf
    rw [g.fk, g.nm]
    simp
  fk := hk
  st := fun x h => by
    rcases h with h | h
    · exact .inr (lookup_relabel_local h)
    · refine .inl ?_
      show (scope.names.lookup x == some .cell) = true
      rw [show scope.names.lookup x = some .cell from h]
      rfl
  tk := takes0
  po := PassesOwn.never
theorem Ext.wr {H0 H : Hp} {I0 I : Im} {a : Addr} {o : HO} (x : Ext O0 H0 I0 H I) (h : H0 a = none) : Ext O0 H0 I0 (upd H a o) I :=
  ⟨x.gg, x.kk, fun b u q nk no => by
    rw [upd_ne (ne_of_none q h)]; exact x.fr b u q nk no, fun b q => by
    by_cases e : b = a
    · subst e; rw [upd_same]; simp
    · rw [upd_ne e]; exact x.th b q, x.gn, x.kn, x.mm⟩
theorem ER.wr {Γ : Gam} {n : Nat} {σ : L2.St} {ρ : Env} {H : Hp} {I : Im} {own : Nat → List Addr} (r : ER Γ n σ ρ H I own) {a : Addr} {o : HO} (h : ¬ Ow own a) : ER Γ n σ ρ (upd H a o) I own :=
  ⟨r.len, fun i lv e => let ⟨v, h1, h2⟩ := r.at_ i lv e; ⟨v, h1, h2.ext Im.Le.refl fun b u hb q => by
    rw [upd_ne (fun z => h ⟨i, by rw [← z]; exact hb⟩)]; exact q⟩, r.dead, fun i b hb => by
    obtain ⟨h1, h2, h3⟩ := r.free i b hb
    refine ⟨h1, h2, ?_⟩
    by_cases e : b = a
    · subst e; rw [upd_same]; simp
    · rw [upd_ne e]; exact h3, r.disj⟩
theorem ER.slots {Γ : Gam} {n : Nat} {σ σ' : L2.St} {ρ : Env} {H : Hp} {I : Im} {own : Nat → List Addr} (r : ER Γ n σ ρ H I own) (hl : σ'.length = σ.length) (h : ∀ (i : Nat) lv, ρ[i]? = some (some lv) → σ'[i]? = σ[i]?) : ER Γ n σ' ρ H I own :=
  ⟨hl.trans r.len, fun i lv e => let ⟨v, h1, h2⟩ := r.at_ i lv e; ⟨v, by rw [h i lv e]; exact h1, h2⟩, r.dead, r.free, r.disj⟩
theorem forget_notin {ρ : Env} {i : Nat} {lv : LV} : ∀ {is : List Nat}, (forget ρ is)[i]? = some (some lv) → i ∉ is
  | [], _ => by simp
  | j :: is, h => by
    unfold forget at h
    by_cases e : j = i
    · subst e
      by_cases hl : j < (forget ρ is).length
      · rw [List.getElem?_set_self hl] at h; cases h
      · rw [List.getElem?_eq_none (by simpa using hl)] at h; cases h
    · rw [List.getElem?_set_ne e] at h
      have := forget_notin h
      simp only [List.mem_cons, not_or]
      exact ⟨fun z => e z.symm, this⟩
theorem forget_out {ρ : Env} {i : Nat} : ∀ {is : List Nat}, i ∉ is → (forget ρ is)[i]? = ρ[i]?
  | [], _ => rfl
  | j :: is, h => by
    simp only [List.mem_cons, not_or] at h
    unfold forget
    rw [List.getElem?_set_ne (fun z => h.1 z.symm)]
    exact forget_out h.2
theorem forget_in {ρ : Env} {i : Nat} : ∀ {is : List Nat}, i ∈ is → i < ρ.length → (forget ρ is)[i]? = some none
  | [], h, _ => by cases h
  | j :: is, h, hl => by
    unfold forget
    by_cases e : j = i
    · subst e
      exact List.getElem?_set_self (by rw [forget_len]; exact hl)
    · rw [List.getElem?_set_ne e]
      rcases List.mem_cons.mp h with z | z
      · exact absurd z.symm e
      · exact forget_in z hl
theorem forget_same {ρ ρ1 : Env} {is sl : List Nat} (hl : ρ1.length = ρ.length) (h : ∀ j, j ∉ sl → ρ1[j]? = ρ[j]?) (hs : ∀ j, j ∈ sl → j ∈ is) : forget ρ1 is = forget ρ is := by
  apply List.ext_getElem?
  intro i
  by_cases hi : i ∈ is
  · by_cases hb : i < ρ.length
    · rw [forget_in hi hb, forget_in hi (by rw [hl]; exact hb)]
    · rw [List.getElem?_eq_none (by rw [forget_len, hl]; omega), List.getElem?_eq_none (by rw [forget_len]; omega)]
  · rw [forget_out hi, forget_out hi]
    exact h i fun z => hi (hs i z)
theorem wipe_out {σ : L2.St} {i : Nat} : ∀ {vs : List Nat}, i ∉ vs → (wipe σ vs)[i]? = σ[i]?
  | [], _ => rfl
  | j :: is, h => by
    simp only [List.mem_cons, not_or] at h
    unfold wipe
    rw [List.getElem?_set_ne (fun z => h.1 z.symm)]
    exact wipe_out h.2
theorem wipe_in {σ : L2.St} {i : Nat} : ∀ {vs : List Nat}, i ∈ vs → i < σ.length → (wipe σ vs)[i]? = some none
  | [], h, _ => by cases h
  | j :: is, h, hl => by
    unfold wipe
    by_cases e : j = i
    · subst e
      exact List.getElem?_set_self (by rw [wipe_length]; exact hl)
    · rw [List.getElem?_set_ne e]
      rcases List.mem_cons.mp h with z | z
      · exact absurd z.symm e
      · exact wipe_in z hl
theorem wipe_same {σ σ1 : L2.St} {vs sl : List Nat} (hl : σ1.length = σ.length) (h : ∀ j, j ∉ sl → σ1[j]? = σ[j]?) (hs : ∀ j, j ∈ sl → j ∈ vs) : wipe σ1 vs = wipe σ vs := by
  apply List.ext_getElem?
  intro i
  by_cases hi : i ∈ vs
  · by_cases hb : i < σ.length
    · rw [wipe_in hi hb, wipe_in hi (by rw [hl]; exact hb)]
    · rw [List.getElem?_eq_none (by rw [wipe_length, hl]; omega), List.getElem?_eq_none (by rw [wipe_length]; omega)]
  · rw [wipe_out hi, wipe_out hi]
    exact h i fun z => hi (hs i z)
theorem wipe_wipe {σ : L2.St} {vs : List Nat} : wipe (wipe σ vs) vs = wipe σ vs := by
  refine wipe_same (sl := vs) (wipe_length σ vs) (fun j hj => wipe_out hj) fun _ h => h
/-- what is wanted of a comprehension -/
def PostLc (Γ : Gam) (W : WX) (σ : L2.St) (H : Hp) (I : Im) (res : Ev (List D)) (Q : VK) : Prop := match res with
  | .no => False
  | .ok out T' => out.length ≤ lim ∧ ∀ D H' I' vs, Ext O0 H I H' I' → Wf Γ H' I' T' → H D = none → H' D = some (.lst vs) → Reps Γ I' out vs → I'.G D = none → D ∉ I'.κ → Q (.ref D) H'
  | .ex e T' => XW Γ W σ H I e T'
section
variable {Γ : Gam} {n : Nat} {W : WX}
theorem lc_walk {gev : D → Env → Cs → Ev Env} {cev : Env → Cs → Ev Bool} {eev : Env → Cs → Ev D} {sl vs : List Nat} (hs : ∀ j, j ∈ sl → j ∈ vs)
    (hp : ∀ d ρ T ρ1 T1, gev d ρ T = .ok ρ1 T1 → ρ1.length = ρ.length ∧ ∀ j, j ∉ sl → ρ1[j]? = ρ[j]?) {σ σe : L2.St} {H H1 : Hp} {Q : VK} {I I1 : Im} {ρ : Env} {T1 : Cs} {own : Nat → List Addr} {J : It} {ds : List D} (x1 : Ext O0 H I H1 I1) (w1 : Wf Γ H1 I1 T1) (er1 : ER Γ n σ ρ H1 I1 own) (wk : Walk Γ J I1 ds)
    (p : PostLc Γ W σe H I (noX (lcEv gev cev eev (forget ρ vs) ds T1)) Q) :
    ∀ D, H1 D = none → ∃ Wv : Nat → Nat → Hp → Prop, (∃ m, Wv 0 m (upd H1 D (.lst []))) ∧ ∀ i m H, Wv i m H →
      (J.stop i H ∧ Q (.ref D) H) ∨ (J.go i H ∧ ∃ Nx : Hp → Prop, (∀ H', Nx H' → ∃ m', m' < m ∧ Wv (i + 1) m' H') ∧ ∀ x H', J.yld i H x H' → tGt Γ n W0 sl true gev x (wipe σ vs) H' fun σ2 H2 => wipe σ2 vs = wipe σ vs ∧ tT Γ n W0 cev σ2 H2 fun b H3 =>
        if b = true then tD Γ n W0 eev σ2 H3 fun y H4 => ∃ acc, H4 D = some (.lst acc) ∧ acc.length < sizeLine ∧ Nx (upd H4 D (.lst (acc ++ [y]))) else Nx H3) := by
  intro L hL
  cases e1 : lcEv gev cev eev (forget ρ vs) ds T1 with
  | no => rw [e1] at p; exact p.elim
  | ex x T' => rw [e1] at p; exact p.elim
  | ok out T' =>
    rw [e1] at p
    obtain ⟨hlim, fin⟩ := p
    have hL0 : H L = none := by
      cases q : H L with
      | none => rfl
      | some o => exact absurd hL (x1.th L (by rw [q]; simp))
    obtain ⟨own0, er0, ho0⟩ := er1.less (forget_len ρ vs) fun i lv e => forget_some e
    have er0' : ER Γ n (wipe σ vs) (forget ρ vs) H1 I1 own0 := er0.slots (wipe_length σ vs) fun i lv e => wipe_out (forget_notin e)
    have nO : ∀ {own : Nat → List Addr} {σ : L2.St} {ρ : Env} {H : Hp} {I : Im}, ER Γ n σ ρ H I own → H L = none → ¬ Ow own L := fun er h ⟨i, ha⟩ => (er.free i L ha).2.2 h
    refine ⟨fun i m H' => m = ds.length - i ∧ i ≤ ds.length ∧ ∃ I' T2 own' accs vacc rest, Ext O0 H I H' I' ∧ Im.Le I1 I' ∧ Wf Γ H' I' T2 ∧ ER Γ n (wipe σ vs) (forget ρ vs) H' I' own' ∧ H' L = some (.lst vacc) ∧ Reps Γ I' accs vacc ∧ I'.G L = none ∧ L ∉ I'.κ ∧ ¬ Ow own' L ∧
      lcEv gev cev eev (forget ρ vs) (ds.drop i) T2 = .ok rest T' ∧ accs ++ rest = out,
      ⟨ds.length, by simp, Nat.zero_le _, I1, T1, own0, [], [], out, x1.wr hL0, Im.Le.refl, w1.write (w1.gnone hL) (w1.nocell hL), er0'.wr (nO er0 hL), upd_same, Reps.nil, w1.gnone hL, w1.nocell hL, nO er0 hL, e1, rfl⟩, ?_⟩
    rintro i m H' ⟨rfl, hi, I', T2, own', accs, vacc, rest, x', le', w', er', hH, ra, hG, hK, hO, e2, e3⟩
    by_cases hlt : i < ds.length
    · refine .inr ⟨wk.go H' I' T2 i le' w' hlt, fun H' => ∃ I' T2 own' accs vacc rest, Ext O0 H I H' I' ∧ Im.Le I1 I' ∧ Wf Γ H' I' T2 ∧ ER Γ n (wipe σ vs) (forget ρ vs) H' I' own' ∧ H' L = some (.lst vacc) ∧ Reps Γ I' accs vacc ∧ I'.G L = none ∧ L ∉ I'.κ ∧ ¬ Ow own' L ∧
        lcEv gev cev eev (forget ρ vs) (ds.drop (i + 1)) T2 = .ok rest T' ∧ accs ++ rest = out, fun H' z => ⟨ds.length - (i + 1), by omega, rfl, hlt, z⟩, fun x H2 y => ?_⟩
      have hd : ds.drop i = ds[i] :: ds.drop (i + 1) := List.drop_eq_getElem_cons hlt
      rw [hd] at e2
      have e2' : ((gev ds[i] (forget ρ vs) T2).bind fun ρ1 T1 => (cev ρ1 T1).bind fun b T2 => if b then (eev ρ1 T2).bind fun x T3 => (lcEv gev cev eev (forget ρ vs) (ds.drop (i + 1)) T3).bind fun r T4 => .ok (x :: r) T4 else lcEv gev cev eev (forget ρ vs) (ds.drop (i + 1)) T2) = .ok rest T' := e2
      obtain ⟨ρ1, T3, g1, e2'⟩ := Ev.bind_ok e2'
      obtain ⟨b, T4, c1, e2'⟩ := Ev.bind_ok e2'
      obtain ⟨I2, xa, wa, rx⟩ := wk.yld H' I' T2 i ds[i] x H2 le' w' (by simp [hlt]) y
      obtain ⟨hp1, hp2⟩ := hp _ _ _ _ _ g1
      obtain ⟨aG, aK, _⟩ := xa.apart hG hK (by rw [hH]; simp) fun z => z
      have aH : H2 L = some (.lst vacc) := xa.fr L _ hH hK fun z => z
      refine ⟨I2, forget ρ vs, T2, own', ds[i], wa, er'.ext xa, rx, ?_⟩
      rw [g1]
      intro σ3 H3 I3 own3 af ch xo
      have hw : wipe σ3 vs = wipe σ vs := by
        rw [wipe_same ch.len ch.at_ hs, wipe_wipe]
      have hf : forget ρ1 vs = forget ρ vs := by
        rw [forget_same hp1 hp2 hs]
        apply List.ext_getElem?
        intro j
        by_cases hj : j ∈ vs
        · by_cases hb : j < ρ.length
          · rw [forget_in hj (by rw [forget_len]; exact hb), forget_in hj hb]
          · rw [List.getElem?_eq_none (by rw [forget_len, forget_len]; omega), List.getElem?_eq_none (by rw [forget_len]; omega)]
        · rw [forget_out hj]
      refine ⟨hw, ?_⟩
      have xb : Ext O0 H2 I2 H3 I3 := xo rfl
      have bH : H3 L = some (.lst vacc) := xb.fr L _ aH aK fun z => z
      obtain ⟨bG, bK, _⟩ := xb.apart aG aK (by rw [aH]; simp) fun z => z
      have bO : ¬ Ow own3 L := fun z => by
        rcases af.ow L z with q | q
        · exact hO q
        · rw [aH] at q; cases q
      obtain ⟨own4, er4, ho4⟩ := af.er.less (forget_len ρ1 vs) fun i lv e => forget_some e
      rw [hf] at er4
      have er4' : ER Γ n (wipe σ vs) (forget ρ vs) H3 I3 own4 := by
        rw [← hw]
        exact er4.slots (wipe_length σ3 vs) fun i lv e => wipe_out (forget_notin e)
      have nO4 : ¬ Ow own4 L := fun z => bO (ho4 L z)
      have x3 : Ext O0 H I H3 I3 := (x'.tr0 xa).tr0 xb
      have le3 : Im.Le I1 I3 := (le'.trans xa.le).trans xb.le
      have ra3 : Reps Γ I3 accs vacc := ra.mono (xa.le.trans xb.le)
      refine ⟨I3, ρ1, T3, own3, af.wf, af.er, ?_⟩
      rw [c1]
      intro bb H4 I4 xc wc eb
      have eb : bb = b := eb
      subst eb
      have cH : H4 L = some (.lst vacc) := xc.fr L _ bH bK fun z => z
      obtain ⟨cG, cK, _⟩ := xc.apart bG bK (by rw [bH]; simp) fun z => z
      cases bb with
      | false =>
        rw [if_neg Bool.false_ne_true]
        rw [if_neg Bool.false_ne_true] at e2'
        exact ⟨I4, T4, own4, accs, vacc, rest, x3.tr0 xc, le3.trans xc.le, wc, er4'.ext xc, cH, ra3.mono xc.le, cG, cK, nO4, e2', e3⟩
      | true =>
        rw [if_pos rfl]
        rw [if_pos rfl] at e2'
        obtain ⟨xv, T5, f1, e2'⟩ := Ev.bind_ok e2'
        obtain ⟨r', T6, f2, e2'⟩ := Ev.bind_ok e2'
        cases e2'
        refine ⟨I4, ρ1, T4, own3, wc, af.er.ext xc, ?_⟩
        rw [f1]
        intro yv H5 I5 xd wd rd
        have rd : Rep Γ I5 xv yv := rd
        have dH : H5 L = some (.lst vacc) := xd.fr L _ cH cK fun z => z
        obtain ⟨dG, dK, _⟩ := xd.apart cG cK (by rw [cH]; simp) fun z => z
        have ra5 : Reps Γ I5 accs vacc := ra3.mono (xc.le.trans xd.le)
        have er5 := (er4'.ext xc).ext xd
        refine ⟨vacc, dH, ?_, I5, T5, own4, accs ++ [xv], vacc ++ [yv], r', ((x3.tr0 xc).tr0 xd).wr hL0, (le3.trans xc.le).trans xd.le, wd.write dG dK, er5.wr nO4, upd_same, ra5.append (Reps.cons rd Reps.nil), dG, dK, nO4, f2, by rw [List.append_assoc]; exact e3⟩
        rw [ra5.length]
        refine Nat.lt_of_lt_of_le ?_ lim_le
        have : out.length = accs.length + (r'.length + 1) := by rw [← e3, List.length_append, List.length_cons]
        omega
    · have e : i = ds.length := by omega
      subst e
      rw [List.drop_length] at e2
      cases e2
      rw [List.append_nil] at e3
      subst e3
      exact .inl ⟨wk.stop H' I' _ _ le' w' (Nat.le_refl _), fin L H' I' vacc x' w' hL0 hH ra hG hK⟩
theorem lc_main {iev : Env → Cs → Ev (List D)} {gev : D → Env → Cs → Ev Env} {cev : Env → Cs → Ev Bool} {eev : Env → Cs → Ev D} {sl vs : List Nat} (hs : ∀ j, j ∈ sl → j ∈ vs)
    (hp : ∀ d ρ T ρ1 T1, gev d ρ T = .ok ρ1 T1 → ρ1.length = ρ.length ∧ ∀ j, j ∉ sl → ρ1[j]? = ρ[j]?) {σ : L2.St} {H : Hp} {Q : VK} {I : Im} {ρ : Env} {T : Cs} {own : Nat → List Addr} (w : Wf Γ H I T) (er : ER Γ n σ ρ H I own)
    (p : PostLc Γ W σ H I ((iev ρ T).bind fun ds T1 => noX (lcEv gev cev eev (forget ρ vs) ds T1)) Q) :
    tLc (tW Γ n W iev) (tGt Γ n W0 sl true gev) (tT Γ n W0 cev) (tD Γ n W0 eev) vs σ H Q := by
  refine ⟨I, ρ, T, own, w, er, ?_⟩
  cases e0 : iev ρ T with
  | no => rw [e0] at p; exact p.elim
  | ex x T' => rw [e0] at p; exact p
  | ok ds T1 =>
    rw [e0] at p
    intro J H1 I1 x1 w1 wk
    exact lc_walk hs hp x1 w1 (er.ext x1) wk p
/-- the list, new, is ours -/
theorem Post.lc {σ : L2.St} {H : Hp} {I : Im} {own : Nat → List Addr} {res : Ev (List D)} {Q : VK} (p : Post Γ (RepR Γ n own) W σ H I (res.bind fun out T1 => Ev.opt (if out.length ≤ lim then some (rL out) else none) T1) Q) : PostLc Γ W σ H I res Q := by
  cases res with
  | no => exact p
  | ex e T => exact p
  | ok out T' =>
    have p : Post Γ (RepR Γ n own) W σ H I (Ev.opt (if out.length ≤ lim then some (rL out) else none) T') Q := p
    obtain ⟨r, e, k⟩ := Post.opt p
    split at e
    · rename_i hl
      cases e
      exact ⟨hl, fun D H' I' vs x w hn hH r hG hK => k _ H' I' x w ⟨[D], ⟨D, vs, rfl, rfl, hH, r⟩, fun a ha => by
        have : a = D := by simpa using ha
        subst this
        exact ⟨hG, hK, by rw [hH]; simp, hn⟩⟩⟩
    · cases e
end
def evLc (t : CG) (i : CI) (c : Option CT) (e : CE) (own : List (Str × Nat)) : Env → Cs → Ev R := fun ρ T => ((i.ev ρ T).bind fun ds T1 => noX (lcEv t.ev (evC c) (evD e.ev) (forget ρ (own.map (·.2))) ds T1)).bind fun out T2 => Ev.opt (if out.length ≤ lim then some (rL out) else none) T2
def chkLc (t : CG) (i : CI) (c : Option CT) (e : CE) (own : List (Str × Nat)) (k : Nat) (sc : Sc) (x : Expr) : Bool := match x with
  | .ListComp elt [⟨tg, iter, ifs, 0⟩] scope _ => blkC sc.N { kind := .function, names := sc.nm, isGenerator := false, isCoroutine := false } scope own && (t.pure && (!t.z && (!e.z && (t.sl.all (fun j => decide (j ∈ own.map (·.2))) && (i.chk k sc tg iter && (t.chk k (scIn sc scope) tg && (chkC c k (scIn sc scope) ifs && e.chk k (scIn sc scope) elt)))))))
  | _ => false
theorem lc_parts {t : CG} {i : CI} {c : Option CT} {e : CE} {own : List (Str × Nat)} {Γ : Gam} {k : Nat} {W : WX} {sc : Sc} {X : Cx} {elt tg iter : Expr} {ifs : List Expr} {scope : Scope} {pos : Pos} {n : Nat} (g : Good Γ k W sc X) (nd : t.need Γ ∧ i.need Γ ∧ needC c Γ ∧ e.need Γ) (h : chkLc t i c e own k sc (.ListComp elt [⟨tg, iter, ifs, 0⟩] scope pos) = true) (hz : i.z = true → n = X.s_0.heap.objs.size) :
    PI X tg iter (tW Γ n W i.ev) ∧ BlkOk X.N X.env.scope scope own ∧ (∀ s H C cl fp, PG (X.blk s H scope (compEnvC scope cl C X.env) fp) tg (tGt Γ n W0 t.sl true t.ev)) ∧ (∀ s H C cl fp, PTs (X.blk s H scope (compEnvC scope cl C X.env) fp) ifs (tT Γ n W0 (evC c))) ∧
    (∀ s H C cl fp, PE (X.blk s H scope (compEnvC scope cl C X.env) fp) elt (tD Γ n W0 (evD e.ev))) ∧ (∀ x, foldedSetIterable iter X.env x = pure x) ∧ (∀ j, j ∈ t.sl → j ∈ own.map (·.2)) ∧ ∀ d ρ T ρ1 T1, t.ev d ρ T = .ok ρ1 T1 → ρ1.length = ρ.length ∧ ∀ j, j ∉ t.sl → ρ1[j]? = ρ[j]? := by
  obtain ⟨h1, h⟩ := b2 h
  obtain ⟨h2, h⟩ := b2 h
  obtain ⟨h3, h⟩ := b2 h
  obtain ⟨h4, h⟩ := b2 h
  obtain ⟨h5, h⟩ := b2 h
  obtain ⟨h6, h⟩ := b2 h
  obtain ⟨h7, h⟩ := b2 h
  obtain ⟨h8, h9⟩ := b2 h
  have bo := blkOk_by h1
  have bo' : BlkOk X.N X.env.scope scope own := ⟨bo.kind, bo.uniq, by rw [g.N]; exact bo.ix, fun y hy e => by rw [g.nm]; exact bo.free y hy e, by rw [g.N]; exact bo.own⟩
  refine ⟨i.ok g nd.2.1 h6 hz, bo', fun s H C cl fp => ?_, fun s H C cl fp => ?_, fun s H C cl fp => ?_, i.fs h6, fun j hj => of_decide_eq_true (List.all_eq_true.mp h5 j hj), t.hp h2⟩
  · have := t.pg (n := n) (goodIn g bo.kind s H C cl fp) nd.1 h7 (fun z => by rw [z] at h3; cases h3)
    rw [h2] at this
    exact this
  · exact evC_ok (goodIn g bo.kind s H C cl fp) nd.2.2.1 h8
  · refine PE.mono (e.ok (n := n) (goodIn g bo.kind s H C cl fp) nd.2.2.2 h9 fun z => by rw [z] at h4; cases h4) fun σ H Q q => tD_of σ H Q q
/-- [e for t in i if c] -/
def cLc (t : CG) (i : CI) (c : Option CT) (e : CE) (own : List (Str × Nat)) : CE where
  ev := evLc t i c e own
  chk := fun k sc x => chkLc t i c e own k sc x
  need := fun Γ => t.need Γ ∧ i.need Γ ∧ needC c Γ ∧ e.need Γ
  z := i.z
  ok := by
    intro Γ k W sc X x n g nd h hz
    have h0 := h
    unfold chkLc at h0
    split at h0
    · obtain ⟨q1, q2, q3, q4, q5, q6, q7, q8⟩ := lc_parts g nd h hz
      refine PE.mono (pe_lc g.calm g.nd q1 q2 q3 q4 q5 q6) fun σ H Q q => ?_
      obtain ⟨I, ρ, T, own', w, er, p⟩ := q
      exact lc_main q7 q8 w er p.lc
    · cases h0
/-- x = [..], the store done within -/
def sAsgLc (j : Nat) (keep : Bool) (t : CG) (i : CI) (c : Option CT) (e : CE) (own : List (Str × Nat)) : C1 where
  ev := fun ρ T => (evLc t i c e own ρ T).bind fun r T1 => match asLV keep r with
    | some lv => if j < ρ.length then .ok (.nx (ρ.set j (some lv))) T1 else .no
    | none => .no
  chk := fun k sc st => match st with
    | .Assign [.Name x px] (.ListComp elt gs scope p) _ => slotIs sc.N j x && (decide (sc.nm.lookup x = some .local) && ((px.line == p.line) && (!(scope.names.any fun (n, k) => n == x && (k == .local || k == .cell)) && chkLc t i c e own k sc (.ListComp elt gs scope p))))
    | _ => false
  need := fun Γ => t.need Γ ∧ i.need Γ ∧ needC c Γ ∧ e.need Γ
  ok := by
    intro Γ k W sc X st g nd h
    split at h
    · rename_i x px elt gs scope p pos
      obtain ⟨h1, h⟩ := b2 h
      obtain ⟨h2, h⟩ := b2 h
      obtain ⟨h3, h⟩ := b2 h
      obtain ⟨h4, h⟩ := b2 h
      have h0 := h
      unfold chkLc at h0
      split at h0
      · rename_i hh
        cases hh
        obtain ⟨q1, q2, q3, q4, q5, q6, q7, q8⟩ := lc_parts (n := X.s_0.heap.objs.size) g nd h fun _ => rfl
        have hl : X.env.scope.names.lookup x = some .local := by rw [g.nm]; exact of_decide_eq_true h2
        refine PS.mono (ps_setLc (i := j) g.calm g.nd (by rw [g.N]; exact slotIs_ok h1) hl (sw_true g.fk hl h3 (notT h4)) q1 q2 q3 q4 q5 q6) fun D σ H q => ?_
        obtain ⟨I, ρ, T, own', w, er, p⟩ := q
        refine lc_main q7 q8 w er (Post.lc (n := X.s_0.heap.objs.size) (own := own') ?_)
        refine (PostS.step (rel := RepR Γ X.s_0.heap.objs.size own') (show PostS Γ X.s_0.heap.objs.size W D (Ow own') H I ((evLc t i c e own ρ T).bind _) from p) Ext.refl).imp fun v H1 q1 => ?_
        obtain ⟨r, T1, I1, _, x1, w1, r1, p1⟩ := q1
        split at p1
        · rename_i lv e1
          split at p1
          · rename_i hi
            obtain ⟨I2, as, x2, w2, _, l2, f2⟩ := asLV_ok x1 w1 e1 r1
            obtain ⟨own', af⟩ := store_aft er hi x2 w2 l2 f2
            exact p1 _ _ _ _ af
          · exact p1.elim
        · exact p1.elim
      · cases h0
    · cases h
end Tp
end
section
set_option Elab.async false
set_option linter.all false
set_option maxRecDepth 100000
set_option maxHeartbeats 2000000
/-! TpO: defs, their calls. -/
namespace Tp
open PySem PySem.Spec PyProof.Rows L2

/-- a def keeps the promise sp, called where no list's text is under way -/
structure FnG (Γ : Gam) (k : Nat) (f : Addr) (fd : FuncData) (ps : List Str) (sp : Sp) : Prop where
  len : ∀ vs H Q E, sp vs H Q E → vs.length = ps.length
  run : ∀ (A : Around) (outer : List PySem.Env) (s : Shared) (H : Hp) (args : Args) (us : List Value) (vs : List V) (Q : VK) (E : XK), A.guards = some [] → Room k A → Env0 Γ.P Γ.w Γ.K Γ.mg Γ.base A outer s H → BindsTo s fd args (ps.zip us) → Vals vs us →
    sp vs H Q E → codeAny (model Γ.P Γ.w) A (.call (.ref f) args) (CR (L2.CX Γ.P Γ.w) outer Γ.P Γ.w H s Q E) s
theorem FnG.mono {Γ : Gam} {j k : Nat} {f : Addr} {fd : FuncData} {ps : List Str} {sp : Sp} (F : FnG Γ j f fd ps sp) (h : j ≤ k) : FnG Γ k f fd ps sp :=
  ⟨F.len, fun A o s H args us vs Q E g r => F.run A o s H args us vs Q E g (r.mono h)⟩
section
variable {Γ : Gam} {k : Nat} {f : Addr} {name qual : Str} {params : Arguments} {body : List Stmt} {scope : Scope} {dV kV doc pm cdv ct oc : Value} {an od : Option Addr} {osl : Array (Option Value)} {N ps : List Str} {sp : Sp}
theorem FnG.of (lk : Γ.K.lookup f = some ⟨oc, od, .func (PySem.W.fnOf name qual params body scope dV kV doc pm an cdv ct), osl⟩) (hcd : PySem.W.codeIn Γ.K cdv qual = true) (S : FnScope N ps scope) (len : ∀ vs H Q E, sp vs H Q E → vs.length = ps.length)
    (hb : ∀ (A : Around) (outer : List PySem.Env) (s : Shared) (H : Hp) (vs : List V) (Q : VK) (E : XK), A.guards = some [] → Room k (A.deeper (envOfC qual scope s.heap.objs.size f cdv)) → sp vs H Q E →
      ∃ t, PSs (cxOf (L2.CX Γ.P Γ.w) Γ.P Γ.w Γ.K Γ.mg Γ.base N qual scope f cdv A outer s H E) body t ∧ t { nx := fun _ H' => Q .non H', rt := Q } (L2.start N vs) H) :
    FnG Γ (k + 1) f (PySem.W.fnOf name qual params body scope dV kV doc pm an cdv ct) ps sp where
  len := len
  run := by
    intro A outer s H args us vs Q E hgd room e0 bnd rel hsp
    have KIn : Γ.K.In s.heap := e0.mod.kin.keeps fun b o e => (e0.bs b o e).1
    have noLim : s.heap.NoLimit := e0.mod.nolimit.keeps fun b o e => (e0.bs b o e).1
    have kinds : ∀ y ∈ ps.zip us, scope.names.lookup y.1 = some .local ∨ (scope.names.lookup y.1 = some .cell ∧ ((cellsFrom (s.heap.objs.size + 1) scope.names []).lookup y.1).isSome = true) := by
      rintro ⟨n, v⟩ hy
      exact (S.par n (List.of_mem_zip hy).1).imp id fun q => ⟨q, PySem.W.cellsFrom_some _ _ _ (.inl q)⟩
    refine codeAny_call_function room.depth (KIn _ _ lk) rfl S.co S.gen rfl (PySem.W.codeRec_of KIn hcd) (bnd _ _ _ _ (wpAny_newFunctionEnv_cells S.kind kinds ?_))
    rintro env rfl s1 x
    refine ⟨noLim.keeps x.toInCall.keep, codeAny_func ?_⟩
    obtain ⟨t, ht, hq⟩ := hb A outer s H vs Q E hgd (room.deeper _) hsp
    refine wpAny_mono (ht.run [] s1 (L2.start N vs) H _ (inv_start S room.hd e0 (len _ _ _ _ hsp) rel x) hq) ?_ fun _ _ z => z
    rintro fl s' hs
    cases fl with
    | next => exact let ⟨_, H', J, q⟩ := hs; ⟨V.non, H', J.os, J.bare, J.base, J.hok, rfl, q⟩
    | ret u => exact let ⟨v, _, H', J, rv, q⟩ := hs; ⟨v, H', J.os, J.bare, J.base, J.hok, rv, q⟩
    | brk => exact let ⟨_, _, _, q⟩ := hs; q.elim
    | cont => exact let ⟨_, _, _, q⟩ := hs; q.elim
end
/-- called from a body -/
theorem FnG.called {Γ : Gam} {k : Nat} {W : WX} {sc : Sc} {X : Cx} (g : Good Γ k W sc X) {j : Nat} (hj : j ≤ k) {f : Addr} {fd : FuncData} {ps : List Str} {sp : Sp} (F : FnG Γ j f fd ps sp) {pins : List (Addr × Obj)} {σ : L2.St} {H : Hp} {s : Shared} {Q : VK}
    {args : Args} {us : List Value} {vs : List V} (I : L2.Inv X pins σ H s) (r : Vals vs us) (b : BindsTo s fd args (ps.zip us)) (h : sp vs H Q (WE W σ)) : wpAny (model X.prog X.w) X.A (call (.ref f) args.pos args.kw) (EP X pins σ Q) X.xe s := by
  have e0 : Env0 Γ.P Γ.w Γ.K Γ.mg Γ.base X.A X.stack s H := by
    have := I.env0
    rw [g.prog, g.w, g.K, g.mg, g.base] at this
    exact this
  have hrun := F.run X.A X.stack s H args us vs Q (WE W σ) g.gd (g.room.mono hj) e0 b r h
  rw [← g.prog, ← g.w] at hrun
  refine wpAny_call (codeAny_mono hrun ?_)
  rintro r s' hq
  match r, hq with
  | .error e, hq => exact passAt g.tk σ pins H s e s' I hq
  | .ok (.ret u), hq => exact I.after hq
  | .ok .next, hq => exact hq.elim
  | .ok .brk, hq => exact hq.elim
  | .ok .cont, hq => exact hq.elim

/-! ### what a def answers, by data -/
abbrev FEv := List D → Cs → Ev LV
def PostF (Γ : Gam) (H : Hp) (I : Im) (res : Ev LV) (Q : VK) (E : XK) : Prop := match res with
  | .no => False
  | .ok lv T' => ∀ v H' I' as, Ext O0 H I H' I' → Wf Γ H' I' T' → RepL Γ 0 I' H' lv v as → (∀ a, a ∈ as → I'.G a = none ∧ a ∉ I'.κ ∧ H' a ≠ none ∧ H a = none) → Q v H'
  | .ex e T' => ∀ cls d H' I', Ext O0 H I H' I' → Wf Γ H' I' T' → RepX Γ I' e cls d → E cls d H'
def spD (Γ : Gam) (m : Nat) (ev : FEv) : Sp := fun vs H Q E => ∃ I T ds, Wf Γ H I T ∧ Reps Γ I ds vs ∧ ds.length = m ∧ PostF Γ H I (ev ds T) Q E
/-- a body as a def: m parameters, N names -/
def defEv (m N : Nat) (b : Env → Cs → Ev Fl) : FEv := fun ds T => if ds.length = m then (b (ds.map (fun d => some (.sh d)) ++ List.replicate (N - m) none) T).bind fun f T1 => match f with
  | .rt (.sh d) => .ok (.sh d) T1
  | .rt (.ow xs) => .ok (.ow xs) T1
  | .rt (.od xs) => .ok (.od xs) T1
  | .nx _ => .ok (.sh .non) T1
  | _ => .no else .no
theorem Reps.at {Γ : Gam} {I : Im} {ds : List D} {vs : List V} (r : Reps Γ I ds vs) {i : Nat} {d : D} (h : ds[i]? = some d) : ∃ v, vs[i]? = some v ∧ Rep Γ I d v := r.get h
theorem er_start {Γ : Gam} {n : Nat} {N : List Str} {H : Hp} {I : Im} {ds : List D} {vs : List V} (r : Reps Γ I ds vs) : ER Γ n (L2.start N vs) (ds.map (fun d => some (.sh d)) ++ List.replicate (N.length - ds.length) none) H I (fun _ => []) where
  len := by
    unfold L2.start
    rw [List.length_append, List.length_append, List.length_map, List.length_map, List.length_replicate, List.length_replicate, r.length]
  at_ := fun i lv h => by
    by_cases hi : i < ds.length
    · rw [List.getElem?_append_left (by simpa using hi), List.getElem?_map] at h
      have e : ds[i]? = some ds[i] := by simp [hi]
      rw [e] at h
      cases h
      obtain ⟨v, h1, h2⟩ := r.get e
      refine ⟨v, ?_, rfl, h2⟩
      unfold L2.start
      rw [List.getElem?_append_left (by simpa [r.length] using hi), List.getElem?_map, h1]
      rfl
    · rw [List.getElem?_append_right (by simpa using hi), List.getElem?_replicate] at h
      split at h <;> cases h
  dead := fun _ _ => rfl
  free := fun _ _ h => by cases h
  disj := fun _ _ _ h => by cases h
theorem RepL.any {Γ : Gam} {n m : Nat} {I : Im} {H : Hp} {lv : LV} {v : V} {as : List Addr} (hz : ∀ xs ys, lv ≠ .zp xs ys) (h : RepL Γ n I H lv v as) : RepL Γ m I H lv v as := by
  cases lv with
  | sh d => exact h
  | ow xs => exact h
  | od xs => exact h
  | oo c xs => exact h
  | zp xs ys => exact absurd rfl (hz xs ys)
theorem goodDef {Γ : Gam} {k : Nat} {qual : Str} {scope : Scope} {N : List Str} {f : Addr} {cdv : Value} {A : Around} {outer : List PySem.Env} {s : Shared} {H : Hp} {E : XK} (hk : scope.kind = .function) (nd : N.Nodup) (hg : A.guards = some []) (hr : Room k (A.deeper (envOfC qual scope s.heap.objs.size f cdv))) :
    Good Γ k (fun cls d _ H => E cls d H) ⟨N, scope.names, scope.names⟩ (cxOf (L2.CX Γ.P Γ.w) Γ.P Γ.w Γ.K Γ.mg Γ.base N qual scope f cdv A outer s H E) where
  prog := rfl
  w := rfl
  K := rfl
  mg := rfl
  base := rfl
  N := rfl
  nd := nd
  calm := rfl
  room := hr
  gd := hg
  nm := rfl
  fk := hk
  st := fun _ _ => .inl rfl
  tk := takes_of rfl rfl rfl rfl
  po := passes_of rfl
/-- the def's facts that callers want -/
structure DefSig where
  nm : Str
  qual : Str
  params : Arguments
  body : List Stmt
  scope : Scope
  N : List Str
  ps : List Str
  dfl : List D
  lv : Nat
def constV : D → V
  | .bl b => .bl b
  | .int i => .int i
  | .str s => .str s
  | _ => .non
def isConst : D → Bool
  | .non => true
  | .bl _ => true
  | .int _ => true
  | .str _ => true
  | _ => false
theorem constV_ok {Γ : Gam} {I : Im} {d : D} (h : isConst d = true) : Rep Γ I d (constV d) := by
  cases d <;> first | exact .ofNon | exact .ofBl | exact .ofInt | exact .ofStr | cases h
structure FnIs (Γ : Gam) (s : DefSig) (ev : FEv) (f : Addr) : Prop where
  kp : PySem.W.keepIn Γ.K (.ref f) = true
  fn : ∃ fd, FunD Γ.K s.nm s.qual s.params s.body s.scope (s.dfl.map constV) [] f fd ∧ FnG Γ s.lv f fd s.ps (spD Γ s.ps.length ev)
/-- names, scope of a def -/
def sigOk (s : DefSig) : Bool := (match s.scope.kind with
    | .function => true
    | _ => false) && (!s.scope.isCoroutine && (!s.scope.isGenerator && (decide s.N.Nodup && (decide (s.N.take s.ps.length = s.ps) && (s.ps.all (fun x => decide (s.scope.names.lookup x = some .local) || decide (s.scope.names.lookup x = some .cell)) && s.scope.names.all fun y => !(y.2 == .free))))))
theorem sigOk_ok {s : DefSig} (h : sigOk s = true) : FnScope s.N s.ps s.scope := by
  obtain ⟨h1, h⟩ := b2 h
  obtain ⟨h2, h⟩ := b2 h
  obtain ⟨h3, h⟩ := b2 h
  obtain ⟨h4, h⟩ := b2 h
  obtain ⟨h5, h⟩ := b2 h
  obtain ⟨h6, h7⟩ := b2 h
  refine ⟨?_, notT h2, notT h3, of_decide_eq_true h4, of_decide_eq_true h5, fun x hx => ?_, fun y hy e => ?_⟩
  · split at h1
    · assumption
    · cases h1
  · rcases Bool.or_eq_true_iff.mp (List.all_eq_true.mp h6 x hx) with q | q
    · exact .inl (of_decide_eq_true q)
    · exact .inr (of_decide_eq_true q)
  · have := List.all_eq_true.mp h7 y hy
    rw [e] at this
    cases this
theorem FnIs.of {Γ : Gam} {s : DefSig} {f : Addr} {k : Nat} (hlv : s.lv = k + 1) (hs : sigOk s = true) (F : ∃ fd, FunD Γ.K s.nm s.qual s.params s.body s.scope (s.dfl.map constV) [] f fd) (b : CS) (nd : b.need Γ) (h : b.chk k ⟨s.N, s.scope.names, s.scope.names⟩ s.body = true) :
    FnIs Γ s (defEv s.ps.length s.N.length b.ev) f := by
  obtain ⟨fd, F⟩ := F
  have S := sigOk_ok hs
  refine ⟨F.kp, fd, F, ?_⟩
  obtain ⟨oc, od, dV, kV, doc, pm, an, cdv, ct, osl, rfl, lk, hcd, _, _⟩ := F.ex
  rw [hlv]
  refine FnG.of lk hcd S (fun vs H Q E ⟨I, T, ds, w, r, hl, _⟩ => by rw [r.length, hl]) fun A outer sh H vs Q E hg hr ⟨I, T, ds, w, r, hl, p⟩ => ?_
  refine ⟨_, b.ok (goodDef S.kind S.nd hg hr) nd h, ?_⟩
  refine ⟨I, ds.map (fun d => some (.sh d)) ++ List.replicate (s.N.length - ds.length) none, T, fun _ => [], w, er_start r, ?_⟩
  unfold defEv at p
  rw [if_pos hl] at p
  rw [hl]
  show PostS Γ _ _ _ (Ow fun _ => []) H I (b.ev _ T)
  cases e : b.ev (ds.map (fun d => some (.sh d)) ++ List.replicate (s.N.length - s.ps.length) none) T with
  | no => rw [e] at p; exact p
  | ex x T' => rw [e] at p; exact fun cls d σ' H' I' x w r => p cls d H' I' (x.mono fun a ⟨i, h⟩ => by cases h) w r
  | ok f T1 =>
    rw [e] at p
    have noO : ∀ a, Ow (fun _ => []) a → O0 a := fun a ⟨i, h⟩ => by cases h
    cases f with
    | nx ρ' =>
      intro σ' H' I' own' af
      exact p .non H' I' [] (af.ext.mono noO) af.wf ⟨rfl, .ofNon⟩ (by simp)
    | bk ρ' => exact p.elim
    | ct ρ' => exact p.elim
    | rt lv =>
      intro v H' I' as x w r q
      have key : ∀ lv', lv = lv' → (∀ xs ys, lv' ≠ .zp xs ys) → PostF Γ H I (.ok lv' T1) Q E → Q v H' := fun lv' e hz p => by
        subst e
        refine p v H' I' as (x.mono noO) w (r.any hz) fun a ha => ?_
        obtain ⟨q1, q2, q3, q4⟩ := q a ha
        exact ⟨q1, q2, q3, q4.elim (fun z => (noO a z).elim) id⟩
      cases lv with
      | sh d => exact key _ rfl (fun _ _ h => by cases h) p
      | ow xs => exact key _ rfl (fun _ _ h => by cases h) p
      | od xs => exact key _ rfl (fun _ _ h => by cases h) p
      | oo c xs => exact p.elim
      | zp xs ys => exact p.elim
end Tp
end
section
set_option Elab.async false
set_option linter.all false
set_option maxRecDepth 100000
set_option maxHeartbeats 2000000
/-! TpP: calls of defs. -/
namespace Tp
open PySem PySem.Spec PyProof.Rows L2

/-- where a parameter's value comes from: the i-th written one, the i-th default -/
inductive Src where
  | a (i : Nat)
  | d (i : Nat)
  deriving DecidableEq
def sel {α : Type} (z : α) (vals dfl : List α) (srcs : List Src) : List α := srcs.map fun s => match s with
  | .a i => vals.getD i z
  | .d i => dfl.getD i z
/-- how the written values, n positional and those named ks, come to the parameters -/
structure BindOk (s : DefSig) (n : Nat) (ks : List Str) (srcs : List Src) : Prop where
  len : srcs.length = s.ps.length
  cs : s.dfl.all isConst = true
  b0 : s.dfl = [] → ∀ (kV doc pm : Value) (an : Option Addr) (cdv ct : Value) (us ws : List Value), us.length = n → ws.length = ks.length →
    bindArgs (PySem.W.fnOf s.nm s.qual s.params s.body s.scope .none kV doc pm an cdv ct) ⟨us, ks.zip ws⟩ = pure (s.ps.zip (sel .none (us ++ ws) [] srcs))
  b1 : s.dfl ≠ [] → ∀ (T : Addr) (kV doc pm : Value) (an : Option Addr) (cdv ct : Value) (us ws its : List Value), us.length = n → ws.length = ks.length → its.length = s.dfl.length →
    ∃ k, bindArgs (PySem.W.fnOf s.nm s.qual s.params s.body s.scope (.ref T) kV doc pm an cdv ct) ⟨us, ks.zip ws⟩ = seqItems? (.ref T) >>= k ∧ k (some its.toArray) = pure (s.ps.zip (sel .none (us ++ ws) its srcs))
theorem Vals.getD {vs : List V} {us : List Value} (r : Vals vs us) (i : Nat) : RelV (vs.getD i .non) (us.getD i .none) := by
  rw [List.getD_eq_getElem?_getD, List.getD_eq_getElem?_getD]
  cases e : vs[i]? with
  | none => rw [r.none_of e]; exact rfl
  | some v =>
    obtain ⟨u, h1, h2⟩ := r.get e
    rw [h1]; exact h2
theorem Vals.sel {vs dv : List V} {us du : List Value} (r : Vals vs us) (q : Vals dv du) : ∀ srcs : List Src, Vals (sel .non vs dv srcs) (sel .none us du srcs)
  | [] => .nil
  | .a i :: l => .cons (Tp.Vals.getD r i) (Vals.sel r q l)
  | .d i :: l => .cons (Tp.Vals.getD q i) (Vals.sel r q l)
theorem Reps.getD {Γ : Gam} {I : Im} {ds : List D} {vs : List V} (r : Reps Γ I ds vs) (i : Nat) : Rep Γ I (ds.getD i .non) (vs.getD i .non) := by
  rw [List.getD_eq_getElem?_getD, List.getD_eq_getElem?_getD]
  cases e : ds[i]? with
  | none =>
    rw [show vs[i]? = none from List.getElem?_eq_none (by rw [r.length]; exact List.getElem?_eq_none_iff.mp e)]
    exact .ofNon
  | some d =>
    obtain ⟨v, h1, h2⟩ := r.get e
    rw [h1]; exact h2
theorem Reps.sel {Γ : Gam} {I : Im} {ds es : List D} {vs us : List V} (r : Reps Γ I ds vs) (q : Reps Γ I es us) : ∀ srcs : List Src, Reps Γ I (sel .non ds es srcs) (sel .non vs us srcs)
  | [] => Reps.nil
  | .a i :: l => Reps.cons (r.getD i) (Reps.sel r q l)
  | .d i :: l => Reps.cons (q.getD i) (Reps.sel r q l)
theorem Reps.consts {Γ : Gam} {I : Im} : ∀ {ds : List D}, ds.all isConst = true → Reps Γ I ds (ds.map constV)
  | [], _ => Reps.nil
  | d :: ds, h => by
    rw [List.all_cons] at h
    exact Reps.cons (constV_ok (b2 h).1) (Reps.consts (b2 h).2)
theorem bind_of {Γ : Gam} {s : DefSig} {n : Nat} {ks : List Str} {srcs : List Src} {f : Addr} {fd : FuncData} (B : BindOk s n ks srcs) (F : FunD Γ.K s.nm s.qual s.params s.body s.scope (s.dfl.map constV) [] f fd) {sh : Shared} (KI : Γ.K.In sh.heap) {us ws : List Value} (h1 : us.length = n) (h2 : ws.length = ks.length) :
    ∃ its, Vals (s.dfl.map constV) its ∧ BindsTo sh fd ⟨us, ks.zip ws⟩ (s.ps.zip (sel .none (us ++ ws) its srcs)) := by
  obtain ⟨oc, od, dV, kV, doc, pm, an, cdv, ct, osl, rfl, lk, hcd, hD, _⟩ := F.ex
  rcases hD with ⟨e, rfl⟩ | ⟨hne, T, o, its, m, rfl, lT, oT, rT⟩
  · have e0 : s.dfl = [] := List.map_eq_nil_iff.mp e
    exact ⟨[], by rw [e0]; exact .nil, .of_eq (B.b0 e0 kV doc pm an cdv ct us ws h1 h2)⟩
  · have e0 : s.dfl ≠ [] := fun z => hne (by rw [z]; rfl)
    have hl : its.length = s.dfl.length := by rw [← rT.length, List.length_map]
    obtain ⟨k, e1, e2⟩ := B.b1 e0 T kV doc pm an cdv ct us ws its h1 h2 hl
    refine ⟨its, rT, BindsTo.of_looks fun M => ?_⟩
    rw [e1]
    exact looks_items KI lT oT (.of_pure e2)
/-- what comes back, as an answer -/
def toR : LV → Option R
  | .sh d => some (.v (.sh d))
  | .ow xs => some (.v (.ow xs))
  | .od xs => some (.v (.od xs))
  | _ => none
theorem toR_ok {Γ : Gam} {n : Nat} {own : Nat → List Addr} {Hs H' : Hp} {I' : Im} {lv : LV} {r : R} {v : V} {as : List Addr} (e : toR lv = some r) (h : RepL Γ 0 I' H' lv v as) (q : ∀ a, a ∈ as → I'.G a = none ∧ a ∉ I'.κ ∧ H' a ≠ none ∧ Hs a = none) : RepR Γ n own Hs H' I' r v := by
  unfold toR at e
  split at e <;> cases e
  · exact ⟨as, h, q⟩
  · exact ⟨as, h, q⟩
  · exact ⟨as, h, q⟩
/-- keywords' values -/
structure CKw where
  ev : Env → Cs → Ev (List D)
  ks : List Str
  chk : Nat → Sc → List Keyword → Bool
  need : Gam → Prop
  z : Bool
  ok : ∀ {Γ : Gam} {k : Nat} {W : WX} {sc : Sc} {X : Cx} {e : List Keyword} {n : Nat}, Good Γ k W sc X → need Γ → chk k sc e = true → (z = true → n = X.s_0.heap.objs.size) → PK X e (tDs Γ n W ev)
  nm : ∀ {k : Nat} {sc : Sc} {e : List Keyword} {env : PySem.Env} {pos : Pos}, chk k sc e = true → (backToKw pos (keywordEach e env)).all (·.1.isSome) = true ∧ (backToKw pos (keywordEach e env)).filterMap (·.1) = ks ∧ (backToKw pos (keywordEach e env)).any (·.1.isNone) = false
  hlen : ∀ {ρ : Env} {T T' : Cs} {ds : List D}, ev ρ T = .ok ds T' → ds.length = ks.length
theorem PK.mono {X : Cx} {e : List Keyword} {t t' : TA} (h : PK X e t) (m : ∀ σ H Q, t' σ H Q → t σ H Q) : PK X e t' := ⟨fun pos pins s σ H Q I q => h.run pos pins s σ H Q I (m σ H Q q)⟩
def wNil : CKw where
  ev := fun _ T => .ok [] T
  ks := []
  chk := fun _ _ es => match es with
    | [] => true
    | _ => false
  need := fun _ => True
  z := false
  ok := by
    intro Γ k W sc X e n g _ h _
    cases e with
    | cons a b => cases h
    | nil => exact PK.mono pk_nil fun σ H Q ⟨I, ρ, T, own, w, er, p⟩ => p [] H I Ext.refl w Reps.nil
  nm := fun {k sc e env pos} h => by
    cases e with
    | cons a b => cases h
    | nil => exact ⟨rfl, rfl, rfl⟩
  hlen := fun {ρ T T' ds} h => by cases h; rfl
def wCons (x : Str) (a : CE) (r : CKw) : CKw where
  ev := fun ρ T => (evD a.ev ρ T).bind fun d T1 => (r.ev ρ T1).bind fun ds T2 => .ok (d :: ds) T2
  ks := x :: r.ks
  chk := fun k sc es => match es with
    | ⟨some y, e, _⟩ :: es => decide (x = y) && (a.chk k sc e && r.chk k sc es)
    | _ => false
  need := fun Γ => a.need Γ ∧ r.need Γ
  z := a.z || r.z
  ok := by
    intro Γ k W sc X e n g nd h hz
    split at h
    · obtain ⟨h0, h⟩ := b2 h
      obtain ⟨h1, h2⟩ := b2 h
      refine PK.mono (pk_cons (a.ok g nd.1 h1 (or1 hz).1) (r.ok g nd.2 h2 (or1 hz).2)) fun σ H Q q => ?_
      obtain ⟨I, ρ, T, own, w, er, p⟩ := q
      refine ⟨I, ρ, T, own, w, er, Post.toD ((Post.bind (rel := relD Γ) backDs p).imp fun x H1 q1 => ?_)⟩
      obtain ⟨d, T1, I1, _, x1, w1, r1, p1⟩ := q1
      refine ⟨I1, ρ, T1, own, w1, er.ext x1, (Post.bind (rel := relDs Γ) backDs p1).imp fun xs H2 q2 => ?_⟩
      obtain ⟨ds, T2, I2, _, x2, w2, r2, p2⟩ := q2
      exact p2 (x :: xs) H2 I2 Ext.refl w2 (Reps.cons (Rep.mono x2.le r1) r2)
    · cases h
  nm := fun {k sc e env pos} h => by
    split at h
    · obtain ⟨h0, h⟩ := b2 h
      obtain ⟨h1, h2⟩ := b2 h
      obtain ⟨n1, n2, n3⟩ := r.nm (env := env) (pos := pos) h2
      have h0' := of_decide_eq_true h0
      subst h0'
      unfold backToKw at n1 n2 n3 ⊢
      refine ⟨?_, ?_, ?_⟩
      · simpa [keywordEach] using n1
      · simp only [keywordEach, List.map_cons, List.filterMap_cons]
        rw [n2]
      · simpa [keywordEach] using n3
    · cases h
  hlen := fun {ρ T T' ds} h => by
    obtain ⟨x, T1, _, h⟩ := Ev.bind_ok h
    obtain ⟨ds2, T2, e2, h⟩ := Ev.bind_ok h
    cases h
    rw [List.length_cons, r.hlen e2]
    rfl
/-- the callee by its data -/
def callEv (ev : FEv) (srcs : List Src) (dfl : List D) (a : Env → Cs → Ev (List D)) (b : Env → Cs → Ev (List D)) : Env → Cs → Ev R := fun ρ T => (a ρ T).bind fun ds T1 => (b ρ T1).bind fun es T2 => (ev (sel .non (ds ++ es) dfl srcs) T2).bind fun lv T3 => Ev.opt (toR lv) T3
theorem args_hp {es : List Expr} {env : PySem.Env} {pos : Pos} {l : List (Option Str × Sem Value)} (h : noStars es = true) (q : l.any (·.1.isNone) = false) : ((backTo pos (starEach es env)).any (·.1) || l.any (·.1.isNone)) = false := by
  rw [noStars_back h, q]; rfl
section
variable {Γ : Gam} {k : Nat} {W : WX} {sc : Sc} {X : Cx} {n : Nat}
/-- the call at the end -/
theorem call_end (g : Good Γ k W sc X) {s : DefSig} {ev : FEv} {f : Addr} {m : Nat} {ks : List Str} {srcs : List Src} (F : FnIs Γ s ev f) (B : BindOk s m ks srcs) (hlv : s.lv ≤ k) {pins : List (Addr × Obj)} {σ : L2.St} {H : Hp} {sh : Shared} {Q : VK} {us ws : List Value} {vs zs : List V} {ds es : List D} {I : Im} {T : Cs} {own : Nat → List Addr}
    (Iv : L2.Inv X pins σ H sh) (r1 : Vals vs us) (r2 : Vals zs ws) (d1 : Reps Γ I ds vs) (d2 : Reps Γ I es zs) (h1 : ds.length = m) (h2 : es.length = ks.length) (w : Wf Γ H I T) {Hs : Hp} {Is : Im} (x : Ext O0 Hs Is H I)
    (p : Post Γ (RepR Γ n own) W σ Hs Is ((ev (sel .non (ds ++ es) s.dfl srcs) T).bind fun lv T3 => Ev.opt (toR lv) T3) Q) : wpAny (model X.prog X.w) X.A (call (.ref f) us (ks.zip ws)) (EP X pins σ Q) X.xe sh := by
  obtain ⟨fd, FD, FG⟩ := F.fn
  have KI : Γ.K.In sh.heap := by rw [← g.K]; exact Iv.kIn
  obtain ⟨its, ri, hb⟩ := bind_of B FD KI (us := us) (ws := ws) (by rw [← r1.length, d1.length, h1]) (by rw [← r2.length, d2.length, h2])
  refine FnG.called g hlv FG (args := ⟨us, ks.zip ws⟩) (us := sel .none (us ++ ws) its srcs) (vs := sel .non (vs ++ zs) (s.dfl.map constV) srcs) Iv (Tp.Vals.sel (r1.append r2) ri srcs) hb ?_
  refine ⟨I, T, sel .non (ds ++ es) s.dfl srcs, w, Reps.sel (d1.append d2) (Reps.consts B.cs) srcs, by unfold sel; rw [List.length_map, B.len], ?_⟩
  cases e : ev (sel .non (ds ++ es) s.dfl srcs) T with
  | no => rw [e] at p; exact p
  | ex y T' => rw [e] at p; exact fun cls d H' I' x' w' r' => p cls d H' I' (x.tr0 x') w' r'
  | ok lv T3 =>
    rw [e] at p
    obtain ⟨c, e1, k1⟩ := Post.opt (show Post Γ (RepR Γ n own) W σ Hs Is (Ev.opt (toR lv) T3) Q from p)
    refine fun v H' I' as x' w' r' q' => k1 v H' I' (x.tr0 x') w' (toR_ok e1 r' fun a ha => ?_)
    obtain ⟨q1, q2, q3, q4⟩ := q' a ha
    refine ⟨q1, q2, q3, ?_⟩
    cases e2 : Hs a with
    | none => rfl
    | some o => exact absurd q4 (x.th a (by rw [e2]; simp))
end
/-- f(e, .., k = v, ..) -/
def cCall (s : DefSig) (ev : FEv) (a : CD) (b : CKw) (srcs : List Src) {nn : Nat} {kk : List Str} (B : BindOk s nn kk srcs) : CE where
  ev := callEv ev srcs s.dfl a.ev b.ev
  chk := fun k sc e => match e with
    | .Call (.Name x _) (e :: es) kws _ => (decide (nn = a.len) && decide (kk = b.ks)) && (decide (x = s.nm) && (okName x && (isGl sc.nm x && (decide (s.lv ≤ k) && (noStars (e :: es) && (a.chk k sc (e :: es) && b.chk k sc kws))))))
    | _ => false
  need := fun Γ => (∃ f, Γ.mg s.nm = some (.ref f) ∧ FnIs Γ s ev f) ∧ a.need Γ ∧ b.need Γ
  z := a.z || b.z
  ok := by
    intro Γ k W sc X e n g nd h hz
    split at h
    · rename_i x px e es kws pos
      obtain ⟨h0, hB⟩ := b2 h
      obtain ⟨h01, h02⟩ := b2 h0
      have e01 := of_decide_eq_true h01
      have e02 := of_decide_eq_true h02
      subst e01
      subst e02
      obtain ⟨h1, h⟩ := b2 hB
      obtain ⟨h2, h⟩ := b2 h
      obtain ⟨h3, h⟩ := b2 h
      obtain ⟨h4, h⟩ := b2 h
      obtain ⟨h5, h⟩ := b2 h
      obtain ⟨h6, h7⟩ := b2 h
      have hx := of_decide_eq_true h1
      subst hx
      obtain ⟨d1, _, _⟩ := okName_d h2
      obtain ⟨⟨f, hm, F⟩, na, nb⟩ := nd
      have hm' : X.mg s.nm = some (.ref f) := by rw [g.mg]; exact hm
      have hkp : PySem.W.keepIn X.K (.ref f) = true := by rw [g.K]; exact F.kp
      have hlv := of_decide_eq_true h4
      have pa := a.ok (n := n) g na h6 (or1 hz).1
      have pk := b.ok (n := n) g nb h7 (or1 hz).2
      obtain ⟨n1, n2, n3⟩ := b.nm (env := X.env) (pos := pos) h7
      refine ⟨fun pins sh σ H Q Iv ⟨I, ρ, T, own, w, er, p⟩ => wpAny_Call_Name_kw (ld_glob Iv (isGl_ok g.nm h3) hm' ?_ d1)⟩
      refine PySem.W.callWith_KW (h₀ := X.base) Iv.ok.mod.kin hkp n1 (thn (pa.run pos pins sh σ H _ Iv ⟨I, ρ, T, own, w, er, Post.step (rel := relDs Γ) p Ext.refl⟩) ?_) (args_hp h5 n3) (star_cons (b2 h5).1)
      rintro us s1 ⟨vs, H1, Iv1, rv, ds, T1, I1, e1, x1, w1, r1, p1⟩
      refine thn (pk.run pos pins s1 σ H1 _ Iv1 ⟨I1, ρ, T1, own, w1, er.ext x1, Post.step (rel := relDs Γ) p1 x1⟩) ?_
      rintro ws s2 ⟨zs, H2, Iv2, rz, es', T2, I2, e2, x2, w2, r2, p2⟩
      rw [n2]
      exact ⟨Iv2.kIn, call_end g F B hlv Iv2 rv rz (Reps.mono x2.le r1) r2 (a.hlen e1) (b.hlen e2) w2 (x1.tr0 x2) p2⟩
    · cases h
/-- f(k = v, ..) -/
def cCallK (s : DefSig) (ev : FEv) (b : CKw) (srcs : List Src) {kk : List Str} (B : BindOk s 0 kk srcs) : CE where
  ev := callEv ev srcs s.dfl (fun _ T => .ok [] T) b.ev
  chk := fun k sc e => match e with
    | .Call (.Name x _) [] kws _ => decide (kk = b.ks) && (decide (x = s.nm) && (okName x && (isGl sc.nm x && (decide (s.lv ≤ k) && b.chk k sc kws))))
    | _ => false
  need := fun Γ => (∃ f, Γ.mg s.nm = some (.ref f) ∧ FnIs Γ s ev f) ∧ b.need Γ
  z := b.z
  ok := by
    intro Γ k W sc X e n g nd h hz
    split at h
    · rename_i x px kws pos
      obtain ⟨h0, hB⟩ := b2 h
      have e02 := of_decide_eq_true h0
      subst e02
      obtain ⟨h1, h⟩ := b2 hB
      obtain ⟨h2, h⟩ := b2 h
      obtain ⟨h3, h⟩ := b2 h
      obtain ⟨h4, h7⟩ := b2 h
      have hx := of_decide_eq_true h1
      subst hx
      obtain ⟨d1, _, _⟩ := okName_d h2
      obtain ⟨⟨f, hm, F⟩, nb⟩ := nd
      have hm' : X.mg s.nm = some (.ref f) := by rw [g.mg]; exact hm
      have hkp : PySem.W.keepIn X.K (.ref f) = true := by rw [g.K]; exact F.kp
      have hlv := of_decide_eq_true h4
      have pk := b.ok (n := n) g nb h7 hz
      obtain ⟨n1, n2, n3⟩ := b.nm (env := X.env) (pos := pos) h7
      refine ⟨fun pins sh σ H Q Iv ⟨I, ρ, T, own, w, er, p⟩ => wpAny_Call_Name_kw (ld_glob Iv (isGl_ok g.nm h3) hm' ?_ d1)⟩
      have p : Post Γ (RepR Γ n own) W σ H I ((b.ev ρ T).bind fun es T2 => (ev (sel .non ([] ++ es) s.dfl srcs) T2).bind fun lv T3 => Ev.opt (toR lv) T3) Q := p
      refine PySem.W.callWith_KW0 (h₀ := X.base) Iv.ok.mod.kin hkp n1 (thn (pk.run pos pins sh σ H _ Iv ⟨I, ρ, T, own, w, er, Post.step (rel := relDs Γ) p Ext.refl⟩) ?_) (args_hp rfl n3)
      rintro ws s2 ⟨zs, H2, Iv2, rz, es', T2, I2, e2, x2, w2, r2, p2⟩
      rw [n2]
      exact ⟨Iv2.kIn, call_end (us := []) (vs := []) g F B hlv Iv2 .nil rz Reps.nil r2 rfl (b.hlen e2) w2 x2 p2⟩
    · cases h
end Tp
end
section
set_option Elab.async false
set_option linter.all false
set_option maxRecDepth 100000
set_option maxHeartbeats 2000000
/-! TpQ: names of the module, chains, isinstance, cells. -/
namespace Tp
open PySem PySem.Spec PyProof.Rows L2

/-! ### the module's constants -/
def glChk (sc : Sc) (x : Str) (e : Expr) : Bool := match e with
  | .Name y _ => decide (y = x) && (okName y && isGl sc.nm y)
  | _ => false
theorem glChk_ok {Γ : Gam} {k : Nat} {W : WX} {sc : Sc} {X : Cx} {x : Str} {e : Expr} (g : Good Γ k W sc X) (h : glChk sc x e = true) {v : V} {u : Value} (hm : Γ.mg x = some u) (r : RelV v u) : PE X e (tC v) := by
  unfold glChk at h
  split at h
  · obtain ⟨h1, h⟩ := b2 h
    obtain ⟨h2, h3⟩ := b2 h
    have hx := of_decide_eq_true h1
    subst hx
    exact pe_glob (isGl_ok g.nm h3) (by rw [g.mg]; exact hm) r (okName_d h2).1
  · cases h
def cGInt (x : Str) (i : Int) : CE where
  ev := fun _ T => .ok (rI i) T
  chk := fun _ sc e => glChk sc x e
  need := fun Γ => ∃ t, Γ.mg x = some (.int i t)
  z := false
  ok := by
    intro Γ k W sc X e n g ⟨t, hm⟩ h _
    exact PE.mono (glChk_ok (v := .int i) g h hm ⟨t, rfl⟩) (tE_const fun _ => .ofInt)
def cGStr (x : Str) (i : Str) : CE where
  ev := fun _ T => .ok (.v (.sh (.str i))) T
  chk := fun _ sc e => glChk sc x e
  need := fun Γ => ∃ t, Γ.mg x = some (.str i t)
  z := false
  ok := by
    intro Γ k W sc X e n g ⟨t, hm⟩ h _
    exact PE.mono (glChk_ok (v := .str i) g h hm ⟨t, rfl⟩) (tE_const fun _ => .ofStr)
/-- a tuple of constants -/
def cGTup (x : Str) (ds : List D) : CE where
  ev := fun _ T => .ok (.v (.sh (.tup ds))) T
  chk := fun _ sc e => ds.all isConst && glChk sc x e
  need := fun Γ => ∃ a, Γ.mg x = some (.ref a) ∧ ∀ H, SqT Γ.K H a (ds.map constV)
  z := false
  ok := by
    intro Γ k W sc X e n g ⟨a, hm, hs⟩ h _
    obtain ⟨h1, h2⟩ := b2 h
    exact PE.mono (glChk_ok (v := .ref a) g h2 hm rfl) (tE_const fun I => .ofTup (hs I.G) (Reps.consts h1))

/-! ### a < b < c -/
def evCh (f f' : List R → Option R) (a b c : Env → Cs → Ev R) : Env → Cs → Ev R := fun ρ T => (a ρ T).bind fun x T1 => (b ρ T1).bind fun y T2 => match (f [x, y]).bind rBl with
  | some true => (c ρ T2).bind fun z T3 => Ev.opt (f' [y, z]) T3
  | some false => .ok (rB false) T2
  | none => .no
theorem tE_ch {Γ : Gam} {n : Nat} {W : WX} {a b c : Env → Cs → Ev R} {f f' : List R → Option R} : ∀ σ H Q, tE Γ n W (evCh f f' a b c) σ H Q → tChain (rd2 Γ n f) (rd2 Γ n f') (tE Γ n W a) (tE Γ n W b) (tE Γ n W c) σ H Q := fun σ H Q q => by
  obtain ⟨I, ρ, T, own, w, er, p⟩ := q
  refine ⟨I, ρ, T, own, w, er, (Post.bind (rel := RepR Γ n own) backR p).imp fun x H1 q1 => ?_⟩
  obtain ⟨r, T1, I1, _, x1, w1, r1, p1⟩ := q1
  refine ⟨I1, ρ, T1, own, w1, er.ext x1, (Post.bind (rel := RepR Γ n own) backR p1).imp fun y H2 q2 => ?_⟩
  obtain ⟨r2, T2, I2, _, x2, w2, r2', p2⟩ := q2
  have er2 := (er.ext x1).ext x2
  cases e : f [r, r2] with
  | none => rw [e] at p2; exact p2.elim
  | some c1 =>
    rw [e] at p2
    refine ⟨I2, T2, own, H, [r, r2], c1, w2, .two (r1.ext x2) (r2'.back x1.th), e, fun v H3 I3 x3 w3 rv => ?_⟩
    have p2 : Post Γ (RepR Γ n own) W σ H2 I2 (match rBl c1 with
      | some true => (c ρ T2).bind fun z T3 => Ev.opt (f' [r2, z]) T3
      | some false => .ok (rB false) T2
      | none => .no) Q := p2
    cases e2 : rBl c1 with
    | none => rw [e2] at p2; exact p2.elim
    | some bb =>
      rw [e2] at p2
      rw [rBl_ok e2] at rv
      refine ⟨bb, rv.unsh.bl, ?_⟩
      cases bb with
      | true =>
        rw [if_pos rfl]
        refine ⟨I3, ρ, T2, own, w3, er2.ext x3, (Post.step (rel := RepR Γ n own) p2 x3).imp fun z H4 q4 => ?_⟩
        obtain ⟨r4, T4, I4, _, x4, w4, r4', p4⟩ := q4
        obtain ⟨c2, e3, k3⟩ := Post.opt p4
        exact ⟨I4, T4, own, H, [r2, r4], c2, w4, .two (((r2'.back x1.th).ext x3).ext x4) (r4'.back fun a h => x3.th a (x2.th a (x1.th a h))), e3, fun v H' I' xx ww rr => k3 v H' I' ((x3.tr0 x4).tr0 xx) ww (rr.back fun a h => x4.th a (x3.th a h))⟩
      | false =>
        rw [if_neg Bool.false_ne_true]
        exact p2.ret x3 w3 (.sh .ofBl)
def noSetM (e : Expr) : Bool := notSet e
theorem lastMarks_ok {op op' : CmpOp} {b c : Expr} (h1 : notSet b = true) (h2 : notSet c = true) : lastMarks [op, op'] [b, c] = false := by
  cases b <;> first | (cases h1; done) | (cases c <;> first | (cases h2; done) | rfl)
def cChain (o o' : Cp2) (a b c : CE) : CE where
  ev := evCh o.f o'.f a.ev b.ev c.ev
  chk := fun k sc e => match e with
    | .Compare x [op, op'] [y, z] _ => (op == o.op) && ((op' == o'.op) && ((notSet y && notSet z) && (a.chk k sc x && (b.chk k sc y && c.chk k sc z))))
    | _ => false
  need := fun Γ => a.need Γ ∧ b.need Γ ∧ c.need Γ
  z := a.z || (b.z || c.z)
  ok := by
    intro Γ k W sc X e n g nd h hz
    split at h
    · obtain ⟨h1, h⟩ := b2 h
      obtain ⟨h2, h⟩ := b2 h
      obtain ⟨h3, h⟩ := b2 h
      obtain ⟨h4, h⟩ := b2 h
      obtain ⟨h5, h6⟩ := b2 h
      obtain ⟨h3, h3b⟩ := b2 h3
      rw [eq_of_beq h1, eq_of_beq h2]
      have z1 := or1 hz
      have z2 := or1 z1.2
      exact PE.mono (pe_chain (o.snd (n := n) g) (o'.snd (n := n) g) (a.ok g nd.1 h4 z1.1) (b.ok g nd.2.1 h5 z2.1) (c.ok g nd.2.2 h6 z2.2) (lastMarks_ok h3 h3b)) tE_ch
    · cases h
def tChn (o o' : Cp2) (a b c : CE) : CT where
  ev := evB (evCh o.f o'.f a.ev b.ev c.ev)
  chk := fun k sc e => match e with
    | .Compare x [op, op'] [y, z] _ => (op == o.op) && ((op' == o'.op) && ((notSet y && notSet z) && (a.chk k sc x && (b.chk k sc y && c.chk k sc z))))
    | _ => false
  need := fun Γ => a.need Γ ∧ b.need Γ ∧ c.need Γ
  z := a.z || (b.z || c.z)
  ok := by
    intro Γ k W sc X e n g nd h hz
    split at h
    · obtain ⟨h1, h⟩ := b2 h
      obtain ⟨h2, h⟩ := b2 h
      obtain ⟨h3, h⟩ := b2 h
      obtain ⟨h4, h⟩ := b2 h
      obtain ⟨h5, h6⟩ := b2 h
      obtain ⟨h3, h3b⟩ := b2 h3
      rw [eq_of_beq h1, eq_of_beq h2]
      have z1 := or1 hz
      have z2 := or1 z1.2
      refine PT.mono (pt_chain (o.snd (n := n) g) (o'.snd (n := n) g) (a.ok g nd.1 h4 z1.1) (b.ok g nd.2.1 h5 z2.1) (c.ok g nd.2.2 h6 z2.2) (lastMarks_ok h3 h3b)) fun σ H Q q => ?_
      exact tE_ch σ H _ (tT_val σ H Q q)
    · cases h

/-! ### a list of one's own is passed about -/
/-- a fresh list becomes a cell -/
def cCell (a : CE) : CE where
  ev := fun ρ T => (a.ev ρ T).bind fun r T1 => match r with
    | .v (.ow xs) => .ok (.v (.sh (.cell T1.length))) (T1 ++ [xs])
    | _ => .no
  chk := a.chk
  need := a.need
  z := a.z
  ok := by
    intro Γ k W sc X e n g nd h hz
    refine PE.mono (a.ok g nd h hz) fun σ H Q q => ?_
    obtain ⟨I, ρ, T, own, w, er, p⟩ := q
    refine ⟨I, ρ, T, own, w, er, (Post.step (rel := RepR Γ n own) p Ext.refl).imp fun x H1 q1 => ?_⟩
    obtain ⟨r, T1, I1, _, x1, w1, r1, p1⟩ := q1
    split at p1
    · rename_i xs _
      obtain ⟨as, ⟨b, vs, rfl, rfl, h2, h3⟩, h4⟩ := r1
      obtain ⟨f1, f2, f3, f4⟩ := h4 b (by simp)
      have le : Im.Le I1 ⟨I1.G, I1.κ ++ [b], I1.me⟩ := ⟨fun _ _ h => h, fun m a h => by
        show (I1.κ ++ [b])[m]? = some a
        rw [List.getElem?_append_left (List.getElem?_eq_some_iff.mp h).1]
        exact h, rfl⟩
      have w2 : Wf Γ H1 ⟨I1.G, I1.κ ++ [b], I1.me⟩ (T1 ++ [xs]) := by
        refine ⟨w1.gh, ?_, fun c hc => ?_, by rw [List.length_append, List.length_append, w1.len]; rfl, fun m c ds e1 e2 => ?_⟩
        · exact List.nodup_append.mpr ⟨w1.nd, by simp, fun c hc c' hc' z => by
            have : c' = b := by simpa using hc'
            rw [z, this] at hc
            exact f2 hc⟩
        · rcases List.mem_append.mp hc with hc | hc
          · exact w1.kg c hc
          · have : c = b := by simpa using hc
            rw [this]; exact f1
        · by_cases hm : m < I1.κ.length
          · have e1' : I1.κ[m]? = some c := by rw [← e1]; exact (List.getElem?_append_left hm).symm
            have e2' : T1[m]? = some ds := by rw [← e2]; exact (List.getElem?_append_left (by rw [← w1.len]; exact hm)).symm
            obtain ⟨us, h5, h6⟩ := w1.cells m c ds e1' e2'
            exact ⟨us, h5, h6.mono le⟩
          · have hl : (I1.κ ++ [b]).length = I1.κ.length + 1 := by simp
            have hlt : m < I1.κ.length + 1 := by rw [← hl]; exact (List.getElem?_eq_some_iff.mp e1).1
            have em : m = I1.κ.length := by omega
            subst em
            have e1' : (I1.κ ++ [b])[I1.κ.length]? = some c := e1
            rw [List.getElem?_append_right (Nat.le_refl _)] at e1'
            simp at e1'
            subst e1'
            rw [w1.len, List.getElem?_append_right (Nat.le_refl _)] at e2
            simp at e2
            subst e2
            exact ⟨vs, h2, h3.mono le⟩
      have x2 : Ext O0 H I H1 ⟨I1.G, I1.κ ++ [b], I1.me⟩ :=
        ⟨x1.gg, fun m a h => le.kk m a (x1.kk m a h), x1.fr, x1.th, x1.gn, fun c hc => by
          rcases List.mem_append.mp hc with hc | hc
          · exact x1.kn c hc
          · have : c = b := by simpa using hc
            rw [this]; exact .inr f4, x1.mm⟩
      refine p1 _ H1 ⟨I1.G, I1.κ ++ [b], I1.me⟩ x2 w2 (.sh ?_)
      simp only [Rep]
      refine ⟨b, rfl, ?_⟩
      rw [← w1.len, List.getElem?_append_right (Nat.le_refl _)]
      simp
    · exact p1.elim

/-! ### classes, types -/
/-- the program's classes: attributes in the order of their stores -/
def cdT : Nat → Str × List Str
  | 0 => ("Field", ["own_prime", "own_turns", "own_size", "own_modulus", "own_powers", "own_logs"])
  | 1 => ("Handed", ["handed_field", "handed_steps"])
  | 2 => ("Space", ["own_field", "own_steps"])
  | _ => ("Book", ["own_field", "own_points", "own_many"])
abbrev cAd (Γ : Gam) (c : Nat) : Addr := He.ga Γ.K (cdT c).1
structure ClsFull (Γ : Gam) (c : Nat) : Prop where
  cd : Γ.cd = cdT
  mg : Γ.mg (cdT c).1 = some (.ref (cAd Γ c))
  cl : Cls Γ.K (cAd Γ c)
  ha : PySem.W.findIn Γ.K (.ref (cAd Γ c)) "__class__" = some (some (.builtin "object.__class__"))
  hn : PySem.W.specialIn Γ.K (.builtin "object.__class__") "__get__" = some (some (.builtin "getset_descriptor.__get__"))
  ht : PySem.W.takesIn Γ.K (.builtin "object.__class__") = some true
  hm : PySem.W.mroIn Γ.K (cAd Γ c) (.type "object") = some true
  na : ∀ f, f ∈ (cdT c).2 → NoAttr Γ.K (cAd Γ c) f
inductive Ty where
  | b (n : String)
  | o (c : Nat)
  deriving DecidableEq
def tyU (Γ : Gam) : Ty → Value
  | .b n => .type n
  | .o c => .ref (cAd Γ c)
def tyV (Γ : Gam) : Ty → V
  | .b n => .ty n
  | .o c => .ref (cAd Γ c)
def tyD (own : List Nat) : D → Option Ty
  | .non => some (.b "NoneType")
  | .bl _ => some (.b "bool")
  | .int _ => some (.b "int")
  | .str _ => some (.b "str")
  | .lst _ => some (.b "list")
  | .fz _ => some (.b "list")
  | .tup _ => some (.b "tuple")
  | .dct _ => some (.b "dict")
  | .obj c _ => if c ∈ own then some (.o c) else none
  | .cell _ => none
def tyR (own : List Nat) : R → Option Ty
  | .v (.sh d) => tyD own d
  | .v (.ow _) => some (.b "list")
  | .v (.od _) => some (.b "dict")
  | .bw _ => some (.b "list")
  | .bd _ => some (.b "dict")
  | _ => none
theorem tyx_lst {Γ : Gam} {H : Hp} {a : Addr} {vs : List V} (h : SqL Γ.K H a vs) : TyX Γ.K H (.ref a) (.type "list") := by
  rcases h with (h | ⟨o, h⟩) | ⟨o, its, n, h1, h2, _⟩
  · exact .base (.lst h)
  · exact .base (.frz h)
  · exact .kList h1 h2
theorem tyx_tup {Γ : Gam} {H : Hp} {a : Addr} {vs : List V} (h : SqT Γ.K H a vs) : TyX Γ.K H (.ref a) (.type "tuple") := by
  rcases h with (h | ⟨o, h⟩) | ⟨o, its, n, h1, h2, _⟩
  · exact .base (.tup h)
  · exact .fTuple h
  · exact .kTuple h1 h2
theorem tyx_D {Γ : Gam} {H : Hp} {I : Im} {own : List Nat} (hc : ∀ c, c ∈ own → ClsFull Γ c) (gh : ∀ a o, I.G a = some o → H a = some o) {d : D} {v : V} {t : Ty} (h : Rep Γ I d v) (e : tyD own d = some t) : TyX Γ.K H v (tyU Γ t) := by
  cases d with
  | non => cases e; rw [h.non]; exact .base .non
  | bl b => cases e; rw [h.bl]; exact .base (.bl b)
  | int b => cases e; rw [h.int]; exact .base (.int b)
  | str b => cases e; rw [h.str]; exact .base (.str b)
  | lst xs =>
    cases e
    obtain ⟨a, vs, rfl, h2, _⟩ := h.lst
    exact tyx_lst (SqL.of (gh _ _ h2))
  | fz xs =>
    cases e
    obtain ⟨a, vs, rfl, h2, _⟩ := h.fz
    exact tyx_lst (SqL.ext gh h2)
  | tup xs =>
    cases e
    obtain ⟨a, vs, rfl, h2, _⟩ := h.tup
    exact tyx_tup (SqT.ext gh h2)
  | dct kvs =>
    cases e
    simp only [Rep] at h
    obtain ⟨a, o, us, rfl, h2, _⟩ := h
    exact .fDict (gh _ _ h2)
  | obj c xs =>
    have e : (if c ∈ own then some (Ty.o c) else none) = some t := e
    split at e
    · rename_i hc0
      cases e
      have F := hc c hc0
      simp only [Rep] at h
      obtain ⟨a, dx, us, rfl, h2, _, _⟩ := h
      have h3 := gh _ _ h2
      rw [F.cd] at h3
      exact .base (.ins h3 F.cl F.ha F.hn F.ht F.hm)
    · cases e
  | cell n => cases e
theorem tyx_R {Γ : Gam} {n : Nat} {ow : Nat → List Addr} {Hs H : Hp} {I : Im} {T : Cs} {own : List Nat} (hc : ∀ c, c ∈ own → ClsFull Γ c) (w : Wf Γ H I T) {r : R} {v : V} {t : Ty} (h : RepR Γ n ow Hs H I r v) (e : tyR own r = some t) : TyX Γ.K H v (tyU Γ t) := by
  unfold tyR at e
  split at e
  · exact tyx_D hc w.gh h.unsh e
  · cases e
    obtain ⟨as, ⟨a, vs, _, rfl, h2, _⟩, _⟩ := h
    exact .base (.lst h2)
  · cases e
    obtain ⟨as, ⟨a, vs, _, rfl, h2, _⟩, _⟩ := h
    exact .base (.dK h2)
  · cases e
    obtain ⟨a, vs, rfl, h2, _⟩ := h
    exact .base (.lst h2)
  · cases e
    obtain ⟨a, vs, rfl, h2, _⟩ := h
    exact .base (.dK h2)
  · cases e
/-- whether a t is a u -/
def isTy (t u : Ty) : Bool := decide (t = u) || (decide (t = .b "bool") && decide (u = .b "int"))
def tys (own : List Nat) : List Ty := [.b "NoneType", .b "bool", .b "int", .b "str", .b "list", .b "tuple", .b "dict"] ++ own.map .o
theorem tyD_mem {own : List Nat} {d : D} {t : Ty} (e : tyD own d = some t) : t ∈ tys own := by
  cases d with
  | obj c xs =>
    have e : (if c ∈ own then some (Ty.o c) else none) = some t := e
    split at e
    · rename_i hc
      cases e
      exact List.mem_append.mpr (.inr (List.mem_map.mpr ⟨c, hc, rfl⟩))
    · cases e
  | cell n => cases e
  | _ => cases e; simp [tys]
theorem tyR_mem {own : List Nat} {r : R} {t : Ty} (e : tyR own r = some t) : t ∈ tys own := by
  unfold tyR at e
  split at e
  · exact tyD_mem e
  all_goals (cases e <;> simp [tys])
def tyNm (u : Ty) : Str := match u with
  | .b n => n
  | .o c => (cdT c).1
def builtTy (n : String) : Bool := n == "int" || n == "bool" || n == "str" || n == "list" || n == "tuple" || n == "dict"
theorem builtTy_ok {n : String} (h : builtTy n = true) : bootBuiltins (n : Str) = some (.type n) := by
  unfold builtTy at h
  simp only [Bool.or_eq_true, beq_iff_eq] at h
  rcases h with ((((h | h) | h) | h) | h) | h <;> subst h
  · exact PyProof.Rows.boot_int
  · decide +kernel
  · decide +kernel
  · exact PyProof.Rows.boot_list
  · exact PyProof.Rows.boot_tuple
  · decide +kernel
/-- a class by its name -/
def tyChk (sc : Sc) (u : Ty) (e : Expr) : Bool := (match u with
    | .b n => builtTy n
    | .o _ => true) && glChk sc (tyNm u) e
def tyNeed (Γ : Gam) (u : Ty) : Prop := match u with
  | .b n => Γ.mg (n : Str) = none
  | .o c => ClsFull Γ c
theorem tyChk_ok {Γ : Gam} {k : Nat} {W : WX} {sc : Sc} {X : Cx} {u : Ty} {e : Expr} (g : Good Γ k W sc X) (nd : tyNeed Γ u) (h : tyChk sc u e = true) : PE X e (tC (tyV Γ u)) := by
  obtain ⟨h1, h2⟩ := b2 h
  cases u with
  | o c => exact glChk_ok g h2 (ClsFull.mg nd) rfl
  | b n =>
    unfold glChk at h2
    split at h2
    · obtain ⟨h3, h⟩ := b2 h2
      obtain ⟨h4, h5⟩ := b2 h
      have hx := of_decide_eq_true h3
      subst hx
      obtain ⟨d1, _, d3⟩ := okName_d h4
      exact pe_bltn (isGl_ok g.nm h5) (by rw [g.mg]; exact nd) (builtTy_ok h1) rfl d3 d1
    · cases h2
theorem tyV_cls (Γ : Gam) (u : Ty) : ClsV (tyV Γ u) (tyU Γ u) := by
  cases u with
  | b n => exact .ty n
  | o c => exact .own _
/-- every isinstance that is asked -/
def isiNeed (Γ : Gam) (own : List Nat) (u : Ty) : Prop := ∀ t, t ∈ tys own → PySem.W.kitOne Γ.K (tyU Γ t) (tyU Γ u) = some (isTy t u)
def evIsi (own : List Nat) (us : List Ty) (a : Env → Cs → Ev R) : Env → Cs → Ev R := fun ρ T => (a ρ T).bind fun r T1 => Ev.opt ((tyR own r).map fun t => rB (us.any fun u => isTy t u)) T1
def cIsi (own : List Nat) (u : Ty) (a : CE) : CE where
  ev := evIsi own [u] a.ev
  chk := fun k sc e => match e with
    | .Call (.Name x _) [y, z] [] _ => decide (x = ("isinstance" : Str)) && (isGl sc.nm x && ((notStar y && notStar z) && (a.chk k sc y && tyChk sc u z)))
    | _ => false
  need := fun Γ => Γ.mg "isinstance" = none ∧ (∀ c, c ∈ own → ClsFull Γ c) ∧ tyNeed Γ u ∧ isiNeed Γ own u ∧ a.need Γ
  z := a.z
  ok := by
    intro Γ k W sc X e n g nd h hz
    obtain ⟨n1, n2, n3, n4, n5⟩ := nd
    split at h
    · rename_i x p y z pos
      obtain ⟨h1, h⟩ := b2 h
      obtain ⟨h2, h⟩ := b2 h
      obtain ⟨h3, h⟩ := b2 h
      obtain ⟨h3, h3b⟩ := b2 h3
      obtain ⟨h4, h5⟩ := b2 h
      have hx := of_decide_eq_true h1
      subst hx
      refine PE.mono (pe_callB call_isi (isGl_ok g.nm h2) (by rw [g.mg]; exact n1) (by decide +kernel) (pa_cons (a.ok g n5 h4 hz) (pa_cons (tyChk_ok g n3 h5) pa_nil (star_cons h3b)) (star_cons h3)) (by decide) (by decide) (star_cons h3) (by rw [star_cons h3b]; rfl)) fun σ H Q q => ?_
      obtain ⟨I, ρ, T, own', w, er, p⟩ := q
      refine ⟨I, ρ, T, own', w, er, (Post.bind (rel := RepR Γ n own') backR p).imp fun xv H1 q1 => ?_⟩
      obtain ⟨r, T1, I1, _, x1, w1, r1, p1⟩ := q1
      obtain ⟨c, e1, k1⟩ := Post.opt p1
      obtain ⟨t, e2, rfl⟩ := Option.map_eq_some_iff.mp e1
      refine ⟨xv, tyV Γ u, tyU Γ t, tyU Γ u, isTy t u, rfl, tyV_cls Γ u, by rw [g.K]; exact tyx_R n2 w1 r1 e2, by rw [g.K]; exact n4 t (tyR_mem e2), ?_⟩
      have : (List.any [u] fun u => isTy t u) = isTy t u := by simp
      rw [this] at k1
      exact give_val w1 .ofBl k1
    · cases h
theorem kitAny_all {Γ : Gam} {own : List Nat} {t : Ty} (ht : t ∈ tys own) : ∀ {us : List Ty}, (∀ u, u ∈ us → isiNeed Γ own u) → PySem.W.kitAny Γ.K (tyU Γ t) (us.map (tyU Γ)) = some (us.any fun u => isTy t u)
  | [], _ => rfl
  | u :: us, h => by
    rw [List.map_cons, List.any_cons]
    refine kitAny_cons (h u (by simp) t ht) (fun e => ?_) (fun e => by rw [e]; rfl)
    rw [e, Bool.false_or]
    exact kitAny_all ht fun v hv => h v (by simp [hv])
/-- isinstance(a, (t1, t2)) -/
def cIsi2 (own : List Nat) (u u2 : Ty) (a : CE) : CE where
  ev := evIsi own [u, u2] a.ev
  chk := fun k sc e => match e with
    | .Call (.Name x _) [y, .Tuple [z, z2] _ _] [] _ => decide (x = ("isinstance" : Str)) && (isGl sc.nm x && ((notStar y && (notStar z && notStar z2)) && (a.chk k sc y && (tyChk sc u z && tyChk sc u2 z2))))
    | _ => false
  need := fun Γ => Γ.mg "isinstance" = none ∧ (∀ c, c ∈ own → ClsFull Γ c) ∧ (tyNeed Γ u ∧ tyNeed Γ u2) ∧ (∀ v, v ∈ [u, u2] → isiNeed Γ own v) ∧ a.need Γ
  z := a.z
  ok := by
    intro Γ k W sc X e n g nd h hz
    obtain ⟨n1, n2, n3, n4, n5⟩ := nd
    split at h
    · rename_i x p y z z2 _ _ pos
      obtain ⟨h1, h⟩ := b2 h
      obtain ⟨h2, h⟩ := b2 h
      obtain ⟨h3, h⟩ := b2 h
      obtain ⟨h3, h3b⟩ := b2 h3
      obtain ⟨h3b, h3c⟩ := b2 h3b
      obtain ⟨h4, h⟩ := b2 h
      obtain ⟨h5, h6⟩ := b2 h
      have hx := of_decide_eq_true h1
      subst hx
      refine PE.mono (pe_callB call_isiT (isGl_ok g.nm h2) (by rw [g.mg]; exact n1) (by decide +kernel) (pa_cons (a.ok g n5 h4 hz) (pa_cons (pe_tup (pa_cons (tyChk_ok g n3.1 h5) (pa_cons (tyChk_ok g n3.2 h6) pa_nil (star_cons h3c)) (star_cons h3b))) pa_nil) (star_cons h3)) (by decide) (by decide) (star_cons h3) rfl) fun σ H Q q => ?_
      obtain ⟨I, ρ, T, own', w, er, p⟩ := q
      refine ⟨I, ρ, T, own', w, er, (Post.bind (rel := RepR Γ n own') backR p).imp fun xv H1 q1 => ?_⟩
      obtain ⟨r, T1, I1, _, x1, w1, r1, p1⟩ := q1
      obtain ⟨c, e1, k1⟩ := Post.opt p1
      obtain ⟨t, e2, rfl⟩ := Option.map_eq_some_iff.mp e1
      refine ⟨(show 2 ≤ sizeLine by rw [sizeLine_eq]; decide), fun tp hp => ?_⟩
      have xx : Ext O0 H1 I1 (upd H1 tp (.tup [tyV Γ u, tyV Γ u2])) I1 := Ext.new hp _
      have ww := w1.new hp (.tup [tyV Γ u, tyV Γ u2])
      refine ⟨xv, tp, [tyV Γ u, tyV Γ u2], tyU Γ t, [tyU Γ u, tyU Γ u2], [u, u2].any fun u => isTy t u, rfl, upd_same, .cons (tyV_cls Γ u) (.cons (tyV_cls Γ u2) .nil), ?_, ?_, ?_⟩
      · rw [g.K]
        exact tyx_R n2 ww (r1.ext xx) e2
      · rw [g.K]
        exact kitAny_all (us := [u, u2]) (tyR_mem e2) n4
      · exact k1 _ _ _ xx ww (.sh .ofBl)
    · cases h
end Tp
end
section
set_option Elab.async false
set_option linter.all false
set_option maxRecDepth 100000
set_option maxHeartbeats 2000000
/-! TpR: instances: attributes, making, methods, properties. -/
namespace Tp
open PySem PySem.Spec PyProof.Rows L2

/-- an expression that is no call (super() apart) -/
def noSup : Expr → Bool
  | .Name .. => true
  | .Attribute .. => true
  | .Subscript .. => true
  | .Call (.Name _ _) (_ :: _) _ _ => true
  | _ => false
theorem noSup_ok {o : Expr} (h : noSup o = true) (f : Str) (env : PySem.Env) : attributeBase o f env (eval o env) = eval o env := by
  unfold noSup at h
  split at h <;> first | rfl | cases h
/-- the place of a field -/
def fIdx (f : Str) : List Str → Option Nat
  | [] => none
  | g :: r => if g = f then some 0 else (fIdx f r).map (· + 1)
theorem fIdx_get {α : Type} {f : Str} : ∀ {us : List (Str × α)} {i : Nat} {v : α}, fIdx f (us.map (·.1)) = some i → (us.map (·.2))[i]? = some v → us.lookup f = some v
  | [], _, _, h, _ => by cases h
  | (g, x) :: r, i, v, h, e => by
    rw [List.map_cons] at h e
    unfold fIdx at h
    rw [List.lookup_cons]
    by_cases hg : g = f
    · rw [if_pos hg] at h
      cases h
      simp at e
      rw [hg, e]; simp
    · rw [if_neg hg] at h
      obtain ⟨j, h1, rfl⟩ := Option.map_eq_some_iff.mp h
      have hne : (f == g) = false := by
        cases q : f == g with
        | false => rfl
        | true => exact absurd (eq_of_beq q).symm hg
      rw [hne]
      exact fIdx_get h1 (by simpa using e)
def fldD (f : Str) : R → Option D
  | .v (.sh (.obj c xs)) => (fIdx f (cdT c).2).bind fun i => xs[i]?
  | _ => none
theorem fIdx_mem {f : Str} : ∀ {l : List Str} {i : Nat}, fIdx f l = some i → f ∈ l
  | [], _, h => by cases h
  | g :: r, i, h => by
    unfold fIdx at h
    split at h
    · rename_i e; rw [e]; simp
    · obtain ⟨j, h1, _⟩ := Option.map_eq_some_iff.mp h
      exact List.mem_cons_of_mem _ (fIdx_mem h1)
/-- a.f, f a field; own: the classes that are here -/
def cFld (own : List Nat) (f : Str) (a : CE) : CE where
  ev := fun ρ T => (a.ev ρ T).bind fun r T1 => Ev.opt (match r with
    | .v (.sh (.obj c xs)) => if c ∈ own then (fldD f r).map fun d => .v (.sh d) else none
    | _ => none) T1
  chk := fun k sc e => match e with
    | .Attribute o g _ => decide (g = f) && (noSup o && a.chk k sc o)
    | _ => false
  need := fun Γ => (∀ c, c ∈ own → ClsFull Γ c) ∧ a.need Γ
  z := a.z
  ok := by
    intro Γ k W sc X e n g nd h hz
    split at h
    · rename_i o f' pos
      obtain ⟨h1, h⟩ := b2 h
      obtain ⟨h2, h3⟩ := b2 h
      have hf := of_decide_eq_true h1
      subst hf
      refine PE.mono (pe_fld (a.ok g nd.2 h3 hz) (noSup_ok h2 _ _)) fun σ H Q q => ?_
      obtain ⟨I, ρ, T, own', w, er, p⟩ := q
      refine ⟨I, ρ, T, own', w, er, (Post.bind (rel := RepR Γ n own') backR p).imp fun x H1 q1 => ?_⟩
      obtain ⟨r, T1, I1, _, x1, w1, r1, p1⟩ := q1
      obtain ⟨c0, e1, k1⟩ := Post.opt p1
      split at e1
      · rename_i c xs _
        split at e1
        · rename_i hc
          obtain ⟨d, e2, rfl⟩ := Option.map_eq_some_iff.mp e1
          have F := nd.1 c hc
          have rr := r1.unsh
          simp only [Rep] at rr
          obtain ⟨b, dx, us, rfl, h4, h5, h6⟩ := rr
          rw [F.cd] at h4 h5
          obtain ⟨i, e3, e4⟩ := Option.bind_eq_some_iff.mp (show (fIdx f' (cdT c).2).bind (fun i => xs[i]?) = some d from e2)
          obtain ⟨v, v1, v2⟩ := h6.get e4
          rw [← h5] at e3
          refine ⟨b, _, dx, us, v, rfl, w1.gh _ _ h4, by rw [g.K]; exact F.cl, ?_, fIdx_get e3 v1, give_val w1 v2 k1⟩
          rw [g.K]
          exact F.na _ (by rw [h5] at e3; exact fIdx_mem e3)
        · cases e1
      · cases e1
    · cases h
/-- self.f within the making: the i-th local -/
def cFldO (i : Nat) (c : Nat) (f : Str) : CE where
  ev := fun ρ T => match ρ[i]? with
    | some (some (.oo c' xs)) => Ev.opt (if c' = c then ((fIdx f ((cdT c).2.take xs.length)).bind fun j => xs[j]?).map fun d => .v (.sh d) else none) T
    | _ => .no
  chk := fun k sc e => match e with
    | .Attribute (.Name x _) g _ => decide (g = f) && isVar sc i x
    | _ => false
  need := fun Γ => ClsFull Γ c
  z := false
  ok := by
    intro Γ k W sc X e n g F h hz
    split at h
    · rename_i x px f' pos
      obtain ⟨h1, h3⟩ := b2 h
      have hf := of_decide_eq_true h1
      subst hf
      refine PE.mono (pe_fld (isVar_ok g h3) rfl) fun σ H Q q => ?_
      obtain ⟨I, ρ, T, own', w, er, p⟩ := q
      have p' : Post Γ (RepR Γ n own') W σ H I (match ρ[i]? with
        | some (some (.oo c' xs)) => Ev.opt (if c' = c then ((fIdx f' ((cdT c).2.take xs.length)).bind fun j => xs[j]?).map fun d => R.v (.sh d) else none) T
        | _ => .no) Q := p
      split at p'
      · rename_i c' xs e0
        obtain ⟨v0, s1, b, dx, us, s2, rfl, sm, s4, s5, s6⟩ := er.at_ i _ e0
        obtain ⟨c0, e1, k1⟩ := Post.opt p'
        split at e1
        · rename_i hc
          subst hc
          obtain ⟨d, e2, rfl⟩ := Option.map_eq_some_iff.mp e1
          obtain ⟨j, e3, e4⟩ := Option.bind_eq_some_iff.mp e2
          rw [F.cd] at s4 s5
          obtain ⟨v, v1, v2⟩ := s6.get e4
          have hm := fIdx_mem e3
          rw [← s5] at e3
          refine ⟨_, s1, b, _, dx, us, v, rfl, s4, by rw [g.K]; exact F.cl, ?_, fIdx_get e3 v1, give_val w v2 k1⟩
          rw [g.K]
          exact F.na _ (List.mem_of_mem_take hm)
        · cases e1
      · exact p'.elim
    · cases h
theorem putF_new {f : Str} {v : V} : ∀ {fs : List (Str × V)}, f ∉ fs.map (·.1) → putF f v fs = fs ++ [(f, v)]
  | [], _ => rfl
  | (g, x) :: r, h => by
    rw [List.map_cons, List.mem_cons, not_or] at h
    show (if g = f then (g, v) :: r else (g, x) :: putF f v r) = _
    rw [if_neg (fun e => h.1 e.symm), putF_new h.2]
    rfl
/-- self.f = e, within the making -/
def sFldO (i : Nat) (c : Nat) (f : Str) (a : CE) : C1 where
  ev := fun ρ T => (evD a.ev ρ T).bind fun d T1 => match ρ[i]? with
    | some (some (.oo c' xs)) => if c' = c ∧ (cdT c).2[xs.length]? = some f ∧ f ∉ (cdT c).2.take xs.length then .ok (.nx (ρ.set i (some (.oo c (xs ++ [d]))))) T1 else .no
    | _ => .no
  chk := fun k sc st => match st with
    | .Assign [.Attribute (.Name x _) g _] e _ => decide (g = f) && (notComp e && (isVar sc i x && a.chk k sc e))
    | _ => false
  need := fun Γ => ClsFull Γ c ∧ a.need Γ
  ok := by
    intro Γ k W sc X st g nd h
    obtain ⟨F, nd⟩ := nd
    split at h
    · rename_i x px f' pos' e pos
      obtain ⟨h1, h⟩ := b2 h
      obtain ⟨h2, h⟩ := b2 h
      obtain ⟨h3, h4⟩ := b2 h
      have hf := of_decide_eq_true h1
      subst hf
      refine PS.mono (ps_fld (isVar_ok g h3) (a.ok (n := X.s_0.heap.objs.size) g nd h4 fun _ => rfl) (notComp_ok h2 _ _ _)) fun D σ H q => ?_
      obtain ⟨I, ρ, T, own, w, er, p⟩ := q
      refine ⟨I, ρ, T, own, w, er, Post.toD ((PostS.step (rel := relD Γ) (show PostS Γ X.s_0.heap.objs.size W D (Ow own) H I _ from p) Ext.refl).imp fun v H1 q1 => ?_)⟩
      obtain ⟨d, T1, I1, _, x1, w1, r1, p1⟩ := q1
      split at p1
      · rename_i c' xs e0
        split at p1
        · rename_i hc
          obtain ⟨rfl, hc2, hc3⟩ := hc
          obtain ⟨v0, s1, b, dx, us, s2, rfl, sm, s4, s5, s6⟩ := er.at_ i _ e0
          rw [F.cd] at s4 s5
          obtain ⟨f1, f2, f3⟩ := er.free i b (by rw [s2]; simp)
          have s4' : H1 b = some (.ins (cAd Γ c') dx us) := x1.fr _ _ s4 f2 fun z => z
          have hus : us.length = xs.length := by
            have := s6.length
            rwa [List.length_map] at this
          have hlt : xs.length < (cdT c').2.length := (List.getElem?_eq_some_iff.mp hc2).1
          have hput : putF f' v us = us ++ [(f', v)] := putF_new (by rw [s5]; exact hc3)
          refine ⟨_, s1, b, _, dx, us, rfl, s4', by rw [g.K]; exact F.cl, ?_, ?_, ?_⟩
          · rw [g.K]
            exact F.na _ (List.mem_of_getElem? hc2)
          · rw [hus]
            have : (cdT c').2.length ≤ 10 := by
              match c' with
              | 0 => decide
              | 1 => decide
              | 2 => decide
              | _ + 3 => show (2 + 1 : Nat) ≤ 10; decide
            omega
          · rw [hput]
            refine p1 σ _ I1 own (write_aft er x1 w1 e0 s2 s1 ⟨b, dx, us ++ [(f', v)], rfl, rfl, x1.mm.trans sm, by rw [F.cd]; exact upd_same, ?_, ?_⟩)
            · rw [F.cd, List.map_append, s5, List.length_append]
              show _ ++ [f'] = (cdT c').2.take (xs.length + 1)
              rw [List.take_add_one, hc2]
              rfl
            · rw [List.map_append]
              exact (s6.mono x1.le).append (Reps.cons r1 Reps.nil)
        · exact p1.elim
      · exact p1.elim
    · cases h
end Tp
end
section
set_option Elab.async false
set_option linter.all false
set_option maxRecDepth 100000
set_option maxHeartbeats 2000000
/-! TpS: C(..), methods, properties. -/
namespace Tp
open PySem PySem.Spec PyProof.Rows L2

/-- an __init__ by data: the attributes' values -/
abbrev IEv := List D → Cs → Ev (List D)
def PostI (Γ : Gam) (c : Nat) (x : Addr) (H : Hp) (I : Im) (res : Ev (List D)) (Q : VK) (E : XK) : Prop := match res with
  | .no => False
  | .ok xs T' => ∀ H' I' dx us, Ext (fun a => a = x) H I H' I' → Wf Γ H' I' T' → H' x = some (.ins (cAd Γ c) dx us) → I'.G x = none → x ∉ I'.κ → us.map (·.1) = (cdT c).2 → Reps Γ I' xs (us.map (·.2)) → Q .non H'
  | .ex e T' => ∀ cls d H' I', Ext (fun a => a = x) H I H' I' → Wf Γ H' I' T' → RepX Γ I' e cls d → E cls d H'
def spI (Γ : Gam) (c m : Nat) (ev : IEv) : Sp := fun vs H Q E => ∃ x dx us I T ds, vs = .ref x :: us ∧ Wf Γ H I T ∧ Reps Γ I ds us ∧ ds.length + 1 = m ∧ H x = some (.ins (cAd Γ c) dx []) ∧ I.G x = none ∧ x ∉ I.κ ∧ I.me = some x ∧ PostI Γ c x H I (ev ds T) Q E
def initEv (c m N : Nat) (b : Env → Cs → Ev Fl) : IEv := fun ds T => if ds.length + 1 = m then (b (some (LV.oo c []) :: (ds.map (fun d => some (.sh d)) ++ List.replicate (N - m) none)) T).bind fun f T1 => (match f with
  | .nx ρ => (match ρ[0]? with
    | some (some (LV.oo c' xs)) => if c' = c ∧ xs.length = (cdT c).2.length then .ok xs T1 else .no
    | _ => .no)
  | _ => .no) else .no
structure InitIs (Γ : Gam) (c : Nat) (s : DefSig) (ev : IEv) (f : Addr) : Prop where
  mkr : Mk Γ.K (cAd Γ c) f
  kp : PySem.W.keepIn Γ.K (.ref f) = true
  fn : ∃ fd, FunD Γ.K s.nm s.qual s.params s.body s.scope (s.dfl.map constV) [] f fd ∧ FnG Γ s.lv f fd s.ps (spI Γ c s.ps.length ev)
theorem er_init {Γ : Gam} {n : Nat} {N : List Str} {H : Hp} {I : Im} {ds : List D} {vs : List V} {x dx : Addr} {c : Nat} (cd : Γ.cd = cdT) (r : Reps Γ I ds vs) (hx : H x = some (.ins (cAd Γ c) dx [])) (hg : I.G x = none) (hk : x ∉ I.κ) (hm : I.me = some x) :
    ER Γ n (L2.start N (.ref x :: vs)) (some (.oo c []) :: (ds.map (fun d => some (.sh d)) ++ List.replicate (N.length - (ds.length + 1)) none)) H I (fun i => if i = 0 then [x] else []) where
  len := by
    unfold L2.start
    rw [List.length_append, List.length_map, List.length_replicate, List.length_cons, List.length_cons, List.length_append, List.length_map, List.length_replicate, r.length]
    omega
  at_ := fun i lv h => by
    cases i with
    | zero =>
      simp at h
      subst h
      refine ⟨.ref x, ?_, x, dx, [], rfl, rfl, hm, ?_, ?_, Reps.nil⟩
      · unfold L2.start; rfl
      · rw [cd]; exact hx
      · simp
    | succ i =>
      rw [List.getElem?_cons_succ] at h
      by_cases hi : i < ds.length
      · rw [List.getElem?_append_left (by simpa using hi), List.getElem?_map] at h
        have e : ds[i]? = some ds[i] := by simp [hi]
        rw [e] at h
        cases h
        obtain ⟨v, h1, h2⟩ := r.get e
        refine ⟨v, ?_, rfl, h2⟩
        unfold L2.start
        rw [List.getElem?_append_left (by simp [r.length]; exact hi), List.getElem?_map, List.getElem?_cons_succ, h1]
        rfl
      · rw [List.getElem?_append_right (by simpa using hi), List.getElem?_replicate] at h
        split at h <;> cases h
  dead := fun i h => by
    by_cases hi : i = 0
    · subst hi
      exact absurd rfl (h (.oo c []))
    · rw [if_neg hi]
  free := fun i a ha => by
    split at ha
    · have e : a = x := by simpa using ha
      subst e
      exact ⟨hg, hk, by rw [hx]; simp⟩
    · cases ha
  disj := fun i j a h1 h2 => by
    split at h1
    · split at h2
      · rename_i e1 e2; rw [e1, e2]
      · cases h2
    · cases h1
theorem InitIs.of {Γ : Gam} {c : Nat} {s : DefSig} {f : Addr} {k : Nat} (cd : Γ.cd = cdT) (M : Mk Γ.K (cAd Γ c) f) (hlv : s.lv = k + 1) (hs : sigOk s = true) (F : ∃ fd, FunD Γ.K s.nm s.qual s.params s.body s.scope (s.dfl.map constV) [] f fd) (b : CS) (nd : b.need Γ) (h : b.chk k ⟨s.N, s.scope.names, s.scope.names⟩ s.body = true) :
    InitIs Γ c s (initEv c s.ps.length s.N.length b.ev) f := by
  obtain ⟨fd, F⟩ := F
  have S := sigOk_ok hs
  refine ⟨M, F.kp, fd, F, ?_⟩
  obtain ⟨oc, od, dV, kV, doc, pm, an, cdv, ct, osl, rfl, lk, hcd, _, _⟩ := F.ex
  rw [hlv]
  refine FnG.of lk hcd S (fun vs H Q E ⟨x, dx, us, I, T, ds, e, w, r, hl, _⟩ => by rw [e, List.length_cons, r.length, hl]) fun A outer sh H vs Q E hg hr ⟨x, dx, us, I, T, ds, e, w, r, hl, hx, g0, k0, m0, p⟩ => ?_
  subst e
  refine ⟨_, b.ok (goodDef S.kind S.nd hg hr) nd h, ?_⟩
  refine ⟨I, _, T, _, w, er_init (N := s.N) cd r hx g0 k0 m0, ?_⟩
  unfold initEv at p
  rw [if_pos hl] at p
  rw [hl]
  show PostS Γ _ _ _ (Ow fun i => if i = 0 then [x] else []) H I (b.ev _ T)
  have hO : ∀ a, Ow (fun i => if i = 0 then [x] else []) a → a = x := fun a ⟨i, h⟩ => by
    have h : a ∈ (if i = 0 then [x] else []) := h
    split at h
    · simpa using h
    · cases h
  cases e : b.ev (some (.oo c []) :: (ds.map (fun d => some (.sh d)) ++ List.replicate (s.N.length - s.ps.length) none)) T with
  | no => rw [e] at p; exact p
  | ex y T' => rw [e] at p; exact fun cls d σ' H' I' x' w' r' => p cls d H' I' (x'.mono hO) w' r'
  | ok f T1 =>
    rw [e] at p
    cases f with
    | nx ρ' =>
      intro σ' H' I' own' af
      have p : PostI Γ c x H I (match ρ'[0]? with
        | some (some (LV.oo c' xs)) => if c' = c ∧ xs.length = (cdT c).2.length then .ok xs T1 else .no
        | _ => .no) Q E := p
      split at p
      · rename_i c' xs e0
        split at p
        · rename_i hc
          obtain ⟨rfl, hc2⟩ := hc
          obtain ⟨v0, s1, b1, dx', us', s2, s3, sm, s4, s5, s6⟩ := af.er.at_ 0 _ e0
          rw [cd] at s4 s5
          obtain ⟨f1, f2, f3⟩ := af.er.free 0 b1 (by rw [s2]; simp)
          have hbx : x = b1 := by
            have := af.ext.mm.trans m0
            rw [this] at sm
            exact Option.some.inj sm
          subst hbx
          refine p H' I' dx' us' (af.ext.mono hO) af.wf s4 f1 f2 ?_ s6
          rw [s5, hc2, List.take_length]
        · exact p.elim
      · exact p.elim
    | bk ρ' => exact p.elim
    | ct ρ' => exact p.elim
    | rt lv => exact p.elim

/-! ### C(..) -/
def shS : List Src → List Src := List.map fun s => match s with
  | .a i => .a (i + 1)
  | .d i => .d i
theorem sel_sh {α : Type} {z x : α} {vals dfl : List α} : ∀ {srcs : List Src}, sel z (x :: vals) dfl (shS srcs) = sel z vals dfl srcs
  | [] => rfl
  | .a i :: l => by
    show List.getD (x :: vals) (i + 1) z :: sel z (x :: vals) dfl (shS l) = _
    rw [sel_sh]; rfl
  | .d i :: l => by
    show List.getD dfl i z :: sel z (x :: vals) dfl (shS l) = _
    rw [sel_sh]; rfl
theorem sel_self {α : Type} {z x : α} {vals dfl : List α} {srcs : List Src} : sel z (x :: vals) dfl (.a 0 :: shS srcs) = x :: sel z vals dfl srcs := by
  show List.getD (x :: vals) 0 z :: sel z (x :: vals) dfl (shS srcs) = _
  rw [sel_sh]; rfl
theorem Reps.me {Γ : Gam} {I : Im} {ds : List D} {vs : List V} (h : Reps Γ I ds vs) (m : Option Addr) : Reps Γ ⟨I.G, I.κ, m⟩ ds vs := Reps.mono0 (I := I) (I' := ⟨I.G, I.κ, m⟩) (fun _ _ h => h) (fun _ _ h => h) h
theorem Wf.me {Γ : Gam} {H : Hp} {I : Im} {T : Cs} (w : Wf Γ H I T) (m : Option Addr) : Wf Γ H ⟨I.G, I.κ, m⟩ T :=
  ⟨w.gh, w.nd, w.kg, w.len, fun n a ds e1 e2 => let ⟨vs, h1, h2⟩ := w.cells n a ds e1 e2; ⟨vs, h1, h2.me m⟩⟩
theorem make_guards {A : Around} {C : Addr} {us : List Value} {kw : List (Str × Value)} (h : A.guards = some []) : (A.under (.builtin "type.__call__" ⟨.ref C :: us, kw⟩)).guards = some [] := by
  simp [Around.under, Code.guards, Code.isGuard, guardIds, pushGuards, h]
def makeEv (c : Nat) (ev : IEv) (srcs : List Src) (dfl : List D) (a b : Env → Cs → Ev (List D)) : Env → Cs → Ev R := fun ρ T => (a ρ T).bind fun ds T1 => (b ρ T1).bind fun es T2 => (ev (sel .non (ds ++ es) dfl srcs) T2).bind fun xs T3 => .ok (.v (.sh (.obj c xs))) T3
section
variable {Γ : Gam} {k : Nat} {W : WX} {sc : Sc} {X : Cx} {n : Nat}
theorem make_end (g : Good Γ k W sc X) {c : Nat} {s : DefSig} {ev : IEv} {f : Addr} {m : Nat} {ks : List Str} {srcs : List Src} (cd : Γ.cd = cdT) (F : InitIs Γ c s ev f) (B : BindOk s (m + 1) ks (.a 0 :: shS srcs)) (hlv : s.lv + 1 ≤ k) {pins : List (Addr × Obj)} {σ : L2.St} {H : Hp} {sh : Shared} {Q : VK} {us ws : List Value} {vs zs : List V} {ds es : List D} {I : Im} {T : Cs} {own : Nat → List Addr}
    (Iv : L2.Inv X pins σ H sh) (r1 : Vals vs us) (r2 : Vals zs ws) (d1 : Reps Γ I ds vs) (d2 : Reps Γ I es zs) (h1 : ds.length = m) (h2 : es.length = ks.length) (w : Wf Γ H I T) {Hs : Hp} {Is : Im} (x : Ext O0 Hs Is H I)
    (p : Post Γ (RepR Γ n own) W σ Hs Is ((ev (sel .non (ds ++ es) s.dfl srcs) T).bind fun xs T3 => .ok (.v (.sh (.obj c xs))) T3) Q) : wpAny (model X.prog X.w) X.A (call (.ref (cAd Γ c)) us (ks.zip ws)) (EP X pins σ Q) X.xe sh := by
  obtain ⟨fd, FD, FG⟩ := F.fn
  have I2 := L2.Inv.made (C := cAd Γ c) Iv
  generalize hxa : sh.heap.objs.size + 1 = xa at I2
  generalize hda : sh.heap.objs.size = da at I2
  have fx : H xa = none := Iv.hok.fresh (by rw [← hxa]; exact Nat.le_succ _)
  have fd' : H da = none := Iv.hok.fresh (by rw [← hda]; exact Nat.le_refl _)
  have hne : da ≠ xa := by rw [← hxa, ← hda]; exact Nat.ne_of_lt (Nat.lt_succ_self _)
  have KI : Γ.K.In sh.heap := by rw [← g.K]; exact Iv.kIn
  have KI2 : Γ.K.In ((sh.heap.push PySem.W.emptyDict).push (PySem.W.instObj (cAd Γ c) da)) := by rw [← g.K]; exact I2.kIn
  obtain ⟨its, ri, hb⟩ := bind_of (sh := { sh with heap := (sh.heap.push PySem.W.emptyDict).push (PySem.W.instObj (cAd Γ c) da) }) B FD KI2 (us := .ref xa :: us) (ws := ws) (by rw [List.length_cons, ← r1.length, d1.length, h1]) (by rw [← r2.length, d2.length, h2])
  have e0 : Env0 Γ.P Γ.w Γ.K Γ.mg Γ.base X.A X.stack { sh with heap := (sh.heap.push PySem.W.emptyDict).push (PySem.W.instObj (cAd Γ c) da) } (upd (upd H da (.own xa)) xa (.ins (cAd Γ c) da [])) := by
    have := I2.env0
    rw [g.prog, g.w, g.K, g.mg, g.base] at this
    exact this
  -- the new instance
  have xx : Ext O0 H I (upd (upd H da (.own xa)) xa (.ins (cAd Γ c) da [])) I := (Ext.new fd' _).tr0 (Ext.new (by rw [upd_ne hne.symm]; exact fx) _)
  have ww : Wf Γ (upd (upd H da (.own xa)) xa (.ins (cAd Γ c) da [])) I T := (w.new fd' _).new (by rw [upd_ne hne.symm]; exact fx) _
  have gx : I.G xa = none := w.gnone fx
  have kx : xa ∉ I.κ := w.nocell fx
  have hsp : spI Γ c s.ps.length ev (.ref xa :: sel .non (vs ++ zs) (s.dfl.map constV) srcs) (upd (upd H da (.own xa)) xa (.ins (cAd Γ c) da [])) (fun v H2 => v = .non ∧ Q (.ref xa) H2) (WE W σ) := by
    refine ⟨xa, da, _, ⟨I.G, I.κ, some xa⟩, T, sel .non (ds ++ es) s.dfl srcs, rfl, ww.me _, Reps.me (Reps.sel (d1.append d2) (Reps.consts B.cs) srcs) _, ?_, upd_same, gx, kx, rfl, ?_⟩
    · have := B.len
      unfold sel
      unfold shS at this
      simpa using this
    · cases e : ev (sel .non (ds ++ es) s.dfl srcs) T with
      | no => rw [e] at p; exact p
      | ex y T' =>
        rw [e] at p
        intro cls d H' I' x' w' r'
        refine p cls d H' ⟨I'.G, I'.κ, Is.me⟩ ?_ (w'.me _) ?_
        · have xo : Ext O0 H I H' ⟨I'.G, I'.κ, I.me⟩ := by
            have z := (xx.trans (O := O0) (I2 := ⟨I'.G, I'.κ, I.me⟩) (O2 := fun a => a = xa) ⟨x'.gg, x'.kk, x'.fr, x'.th, x'.gn, x'.kn, rfl⟩ (fun _ h => h) fun a ha => .inr (by rw [ha]; exact fx))
            exact z
          have z := x.tr0 xo
          exact ⟨z.gg, z.kk, z.fr, z.th, z.gn, z.kn, rfl⟩
        · obtain ⟨q1, q2⟩ := r'
          refine ⟨q1, q2.imp id fun ⟨a, us, q3, q4, q5, q6⟩ => ⟨a, us, q3, q4, q5, q6.me _⟩⟩
      | ok xs T3 =>
        rw [e] at p
        intro H' I' dx us' x' w' hH hG hK hn hr
        refine ⟨rfl, ?_⟩
        have xo : Ext O0 H I H' ⟨I'.G, I'.κ, I.me⟩ :=
          xx.trans (O := O0) (I2 := ⟨I'.G, I'.κ, I.me⟩) (O2 := fun a => a = xa) ⟨x'.gg, x'.kk, x'.fr, x'.th, x'.gn, x'.kn, rfl⟩ (fun _ h => h) fun a ha => .inr (by rw [ha]; exact fx)
        have hs0 : Hs xa = none := by
          cases q : Hs xa with
          | none => rfl
          | some o => exact absurd fx (x.th xa (by rw [q]; simp))
        have z := (x.tr0 xo).frz (a := xa) (o := .ins (cAd Γ c) dx us') hs0 hG
        refine p (.ref xa) H' _ z ((w'.me I.me).freeze hH hG hK) (.sh ?_)
        simp only [Rep]
        refine ⟨xa, dx, us', rfl, by rw [cd]; exact upd_same, by rw [cd]; exact hn, Reps.mono (Im.Le.frz (I := ⟨I'.G, I'.κ, I.me⟩) hG) (hr.me I.me)⟩
  have hrun := FG.run (X.A.under (.builtin "type.__call__" ⟨.ref (cAd Γ c) :: us, ks.zip ws⟩)) X.stack _ _ ⟨.ref xa :: us, ks.zip ws⟩ (sel .none (.ref xa :: us ++ ws) its (.a 0 :: shS srcs)) (sel .non (.ref xa :: vs ++ zs) (s.dfl.map constV) (.a 0 :: shS srcs)) _ (WE W σ)
    (make_guards g.gd) ((g.room.mono hlv).make _ us (ks.zip ws)) (e0.make (cAd Γ c) us (ks.zip ws)) hb (Tp.Vals.sel (Paired.cons (show RelV (.ref xa) (.ref xa) from rfl) (r1.append r2)) ri _) (by
      rw [List.cons_append, sel_self]
      exact hsp)
  rw [← g.prog, ← g.w] at hrun
  refine wpAny_call (make_map (f := f) (K := Γ.K) KI F.mkr.makes F.mkr.init (beq_iff_eq.mp F.mkr.fn) ?_)
  rw [hxa, hda]
  refine codeAny_mono hrun ?_
  rintro r s' hq
  match r, hq with
  | .error e, hq => exact passAt g.tk σ pins _ _ e s' I2 hq
  | .ok (.ret u), hq =>
    obtain ⟨v, H', I3, rv, hv, q3⟩ := I2.after hq
    subst hv
    exact ⟨rv, ⟨V.ref xa, H', I3, rfl, q3⟩⟩
  | .ok .next, hq => exact hq.elim
  | .ok .brk, hq => exact hq.elim
  | .ok .cont, hq => exact hq.elim
end
end Tp
end
section
set_option Elab.async false
set_option linter.all false
set_option maxRecDepth 100000
set_option maxHeartbeats 2000000
/-! TpT: C(..), o.m(..), o.p in the code. -/
namespace Tp
open PySem PySem.Spec PyProof.Rows L2

/-- C(e, .., k = v, ..) -/
def cMake (c : Nat) (s : DefSig) (ev : IEv) (a : CD) (b : CKw) (srcs : List Src) {nn : Nat} {kk : List Str} {sr : List Src} (B : BindOk s nn kk sr) : CE where
  ev := makeEv c ev srcs s.dfl a.ev b.ev
  chk := fun k sc e => match e with
    | .Call (.Name x _) (e :: es) kws _ => (decide (nn = a.len + 1) && (decide (kk = b.ks) && decide (sr = .a 0 :: shS srcs))) && (decide (x = (cdT c).1) && (okName x && (isGl sc.nm x && (decide (s.lv + 1 ≤ k) && (noStars (e :: es) && (a.chk k sc (e :: es) && b.chk k sc kws))))))
    | _ => false
  need := fun Γ => ClsFull Γ c ∧ (∃ f, InitIs Γ c s ev f) ∧ a.need Γ ∧ b.need Γ
  z := a.z || b.z
  ok := by
    intro Γ k W sc X e n g nd h hz
    split at h
    · rename_i x px e es kws pos
      obtain ⟨h0, hB⟩ := b2 h
      obtain ⟨h01, h02⟩ := b2 h0
      obtain ⟨h02, h03⟩ := b2 h02
      have e01 := of_decide_eq_true h01
      have e02 := of_decide_eq_true h02
      have e03 := of_decide_eq_true h03
      subst e01
      subst e02
      subst e03
      obtain ⟨h1, h⟩ := b2 hB
      obtain ⟨h2, h⟩ := b2 h
      obtain ⟨h3, h⟩ := b2 h
      obtain ⟨h4, h⟩ := b2 h
      obtain ⟨h5, h⟩ := b2 h
      obtain ⟨h6, h7⟩ := b2 h
      have hx := of_decide_eq_true h1
      subst hx
      obtain ⟨d1, _, _⟩ := okName_d h2
      obtain ⟨CF, ⟨f, F⟩, na, nb⟩ := nd
      have hm' : X.mg (cdT c).1 = some (.ref (cAd Γ c)) := by rw [g.mg]; exact CF.mg
      have hkp : PySem.W.keepIn X.K (.ref (cAd Γ c)) = true := by rw [g.K]; exact F.mkr.kp
      have hlv := of_decide_eq_true h4
      have pa := a.ok (n := n) g na h6 (or1 hz).1
      have pk := b.ok (n := n) g nb h7 (or1 hz).2
      obtain ⟨n1, n2, n3⟩ := b.nm (env := X.env) (pos := pos) h7
      refine ⟨fun pins sh σ H Q Iv ⟨I, ρ, T, own, w, er, p⟩ => wpAny_Call_Name_kw (ld_glob Iv (isGl_ok g.nm h3) hm' ?_ d1)⟩
      refine PySem.W.callWith_KW (h₀ := X.base) Iv.ok.mod.kin hkp n1 (thn (pa.run pos pins sh σ H _ Iv ⟨I, ρ, T, own, w, er, Post.step (rel := relDs Γ) p Ext.refl⟩) ?_) (args_hp h5 n3) (star_cons (b2 h5).1)
      rintro us s1 ⟨vs, H1, Iv1, rv, ds, T1, I1, e1, x1, w1, r1, p1⟩
      refine thn (pk.run pos pins s1 σ H1 _ Iv1 ⟨I1, ρ, T1, own, w1, er.ext x1, Post.step (rel := relDs Γ) p1 x1⟩) ?_
      rintro ws s2 ⟨zs, H2, Iv2, rz, es', T2, I2, e2, x2, w2, r2, p2⟩
      rw [n2]
      exact ⟨Iv2.kIn, make_end g CF.cd F B hlv Iv2 rv rz (Reps.mono x2.le r1) r2 (a.hlen e1) (b.hlen e2) w2 (x1.tr0 x2) p2⟩
    · cases h
/-- C(k = v, ..) -/
def cMakeK (c : Nat) (s : DefSig) (ev : IEv) (b : CKw) (srcs : List Src) {nn : Nat} {kk : List Str} {sr : List Src} (B : BindOk s nn kk sr) : CE where
  ev := makeEv c ev srcs s.dfl (fun _ T => .ok [] T) b.ev
  chk := fun k sc e => match e with
    | .Call (.Name x _) [] kws _ => (decide (nn = 0 + 1) && (decide (kk = b.ks) && decide (sr = .a 0 :: shS srcs))) && (decide (x = (cdT c).1) && (okName x && (isGl sc.nm x && (decide (s.lv + 1 ≤ k) && b.chk k sc kws))))
    | _ => false
  need := fun Γ => ClsFull Γ c ∧ (∃ f, InitIs Γ c s ev f) ∧ b.need Γ
  z := b.z
  ok := by
    intro Γ k W sc X e n g nd h hz
    split at h
    · rename_i x px kws pos
      obtain ⟨h0, hB⟩ := b2 h
      obtain ⟨h01, h02⟩ := b2 h0
      obtain ⟨h02, h03⟩ := b2 h02
      have e01 := of_decide_eq_true h01
      have e02 := of_decide_eq_true h02
      have e03 := of_decide_eq_true h03
      subst e01
      subst e02
      subst e03
      obtain ⟨h1, h⟩ := b2 hB
      obtain ⟨h2, h⟩ := b2 h
      obtain ⟨h3, h⟩ := b2 h
      obtain ⟨h4, h7⟩ := b2 h
      have hx := of_decide_eq_true h1
      subst hx
      obtain ⟨d1, _, _⟩ := okName_d h2
      obtain ⟨CF, ⟨f, F⟩, nb⟩ := nd
      have hm' : X.mg (cdT c).1 = some (.ref (cAd Γ c)) := by rw [g.mg]; exact CF.mg
      have hkp : PySem.W.keepIn X.K (.ref (cAd Γ c)) = true := by rw [g.K]; exact F.mkr.kp
      have hlv := of_decide_eq_true h4
      have pk := b.ok (n := n) g nb h7 hz
      obtain ⟨n1, n2, n3⟩ := b.nm (env := X.env) (pos := pos) h7
      refine ⟨fun pins sh σ H Q Iv ⟨I, ρ, T, own, w, er, p⟩ => wpAny_Call_Name_kw (ld_glob Iv (isGl_ok g.nm h3) hm' ?_ d1)⟩
      have p : Post Γ (RepR Γ n own) W σ H I ((b.ev ρ T).bind fun es T2 => (ev (sel .non ([] ++ es) s.dfl srcs) T2).bind fun xs T3 => .ok (.v (.sh (.obj c xs))) T3) Q := p
      refine PySem.W.callWith_KW0 (h₀ := X.base) Iv.ok.mod.kin hkp n1 (thn (pk.run pos pins sh σ H _ Iv ⟨I, ρ, T, own, w, er, Post.step (rel := relDs Γ) p Ext.refl⟩) ?_) (args_hp rfl n3)
      rintro ws s2 ⟨zs, H2, Iv2, rz, es', T2, I2, e2, x2, w2, r2, p2⟩
      rw [n2]
      exact ⟨Iv2.kIn, make_end (us := []) (vs := []) g CF.cd F B hlv Iv2 .nil rz Reps.nil r2 rfl (b.hlen e2) w2 x2 p2⟩
    · cases h
/-! ### methods -/
theorem mcall_eq {o : Expr} {name : Str} {apos pos : Pos} {args : List Expr} {env : PySem.Env} (hbase : attributeBase o name env (eval o env) = eval o env) (hl : decide (args.length < 29) = true) (hs : noStars args = true) (hline : (apos.endLine == pos.line) = true) :
    eval (.Call (.Attribute o name apos) args [] pos) env = (do
      let ov ← eval o env
      standAt apos.atName
      let (f, first) ← holding [ov] (getMethod ov name (do return (← importBound o env).getD true))
      callWith pos f first (backTo pos (starEach args env)) (backToKw pos (keywordEach [] env))) := by
  have hform : methodCallForm (args.length + ([] : List Keyword).length) (backTo pos (starEach args env)) (backToKw pos (keywordEach [] env)) = true := by
    have h1 := noStars_back (env := env) (pos := pos) hs
    have h2 : (backTo pos (starEach args env)).all (fun x => !x.1) = true := by
      rw [List.all_eq_true]
      intro x hx
      rw [List.any_eq_false] at h1
      have := h1 x hx
      simpa using this
    have h3 := of_decide_eq_true hl
    show ((backTo pos (starEach args env)).all (fun x => !x.1) && (backToKw pos (keywordEach [] env)).all (fun x => x.1.isSome) && decide (args.length + 0 + 0 < 30)) = true
    rw [h2]
    show decide (args.length + 0 + 0 < 30) = true
    exact decide_eq_true (by omega)
  have hpos : methodCallPos true o env apos pos = pure pos := by
    unfold methodCallPos
    rw [hline]
    rfl
  rw [arm_eval_Call, hbase]
  unfold methodCall
  rw [hform, hpos]
  unfold calleeOf
  simp only [if_true, pure_bind]

def methEv (c : Nat) (ev : FEv) (o : Env → Cs → Ev D) (a : Env → Cs → Ev (List D)) : Env → Cs → Ev R := fun ρ T => (o ρ T).bind fun d T1 => match d with
  | .obj c' xs => if c' = c then (a ρ T1).bind fun ds T2 => (ev (.obj c xs :: ds) T2).bind fun lv T3 => Ev.opt (toR lv) T3 else .no
  | _ => .no
/-- the place of the parameters: all are written -/
def srcAll (n : Nat) : List Src := (List.range n).map .a
theorem sel_all {α : Type} (z : α) : ∀ (vals dfl : List α), sel z vals dfl (srcAll vals.length) = vals := fun vals dfl => by
  unfold sel srcAll
  rw [List.map_map]
  apply List.ext_getElem (by simp)
  intro i h1 h2
  simp [h2]
structure MethIs (Γ : Gam) (c : Nat) (m : Str) (s : DefSig) (ev : FEv) : Prop where
  cl : ClsFull Γ c
  nat : m ∉ (cdT c).2
  ex : ∃ f, Meth Γ.K (cAd Γ c) m f ∧ FnIs Γ s ev f
/-- o.m(e, ..) -/
def cMeth (c : Nat) (m : Str) (s : DefSig) (ev : FEv) (o : CE) (a : CD) {nn : Nat} {sr : List Src} (B : BindOk s nn [] sr) : CE where
  ev := methEv c ev (evD o.ev) a.ev
  chk := fun k sc e => match e with
    | .Call (.Attribute (.Name y yp) x ap) (e :: es) [] cp => (decide (nn = a.len + 1) && decide (sr = srcAll (a.len + 1))) && (decide (x = m) && (((ap.endLine == cp.line) && decide ((e :: es).length < 29)) && (decide (s.lv ≤ k) && (noStars (e :: es) && (o.chk k sc (.Name y yp) && a.chk k sc (e :: es))))))
    | _ => false
  need := fun Γ => MethIs Γ c m s ev ∧ o.need Γ ∧ a.need Γ
  z := o.z || a.z
  ok := by
    intro Γ k W sc X e n g nd h hz
    obtain ⟨⟨CF, hna, f, M, F⟩, no, na⟩ := nd
    split at h
    · rename_i yn yp x apos e es pos
      obtain ⟨h0, hB⟩ := b2 h
      obtain ⟨h01, h03⟩ := b2 h0
      have e01 := of_decide_eq_true h01
      have e03 := of_decide_eq_true h03
      subst e01
      subst e03
      obtain ⟨h1, h⟩ := b2 hB
      obtain ⟨hln, h⟩ := b2 h
      obtain ⟨hln, hlen⟩ := b2 hln
      obtain ⟨h3, h⟩ := b2 h
      obtain ⟨h4, h⟩ := b2 h
      obtain ⟨h5, h6⟩ := b2 h
      have hx := of_decide_eq_true h1
      subst hx
      have hlv := of_decide_eq_true h3
      have M' : Meth X.K (cAd Γ c) x f := by rw [g.K]; exact M
      have cl' : Cls X.K (cAd Γ c) := by rw [g.K]; exact CF.cl
      have po := o.ok (n := n) g no h5 (or1 hz).1
      have pa := a.ok (n := n) g na h6 (or1 hz).2
      -- the call of the method found
      have fin : ∀ (pins : List (Addr × Obj)) (s2 : Shared) (σ : L2.St) (H H2 : Hp) (Q : VK) (I I2 : Im) (T2 : Cs) (own : Nat → List Addr) (us : List Value) (vs : List V) (ds : List D) (b : Addr) (xs : List D), L2.Inv X pins σ H2 s2 → Vals vs us → Reps Γ I2 ds vs → ds.length = a.len → Wf Γ H2 I2 T2 → Ext O0 H I H2 I2 → Rep Γ I2 (.obj c xs) (.ref b) →
          Post Γ (RepR Γ n own) W σ H I ((ev (.obj c xs :: ds) T2).bind fun lv T3 => Ev.opt (toR lv) T3) Q → wpAny (model X.prog X.w) X.A (call (.ref f) (.ref b :: us)) (EP X pins σ Q) X.xe s2 := by
        intro pins s2 σ H H2 Q I I2 T2 own us vs ds b xs Iv2 rv r2 hl w2 x2 ro p2
        have := call_end (n := n) (ks := []) (m := a.len + 1) (srcs := srcAll (a.len + 1)) (us := .ref b :: us) (ws := []) (vs := .ref b :: vs) (zs := []) (ds := .obj c xs :: ds) (es := []) g F B hlv Iv2 (.cons rfl rv) .nil (Reps.cons ro r2) Reps.nil (by rw [List.length_cons, hl]) rfl w2 x2 (by
          rw [List.append_nil, ← hl, ← List.length_cons (a := D.obj c xs), sel_all]
          exact p2)
        exact this
      refine ⟨fun pins sh σ H Q Iv ⟨I, ρ, T, own, w, er, p⟩ => ?_⟩
      have step : ∀ (Q' : V → Hp → Prop), (∀ (b : Addr) (H1 : Hp) (I1 : Im) (T1 : Cs) (xs : List D), Ext O0 H I H1 I1 → Wf Γ H1 I1 T1 → Rep Γ I1 (.obj c xs) (.ref b) → Post Γ (RepR Γ n own) W σ H I ((a.ev ρ T1).bind fun ds T2 => (ev (.obj c xs :: ds) T2).bind fun lv T3 => Ev.opt (toR lv) T3) Q → Q' (.ref b) H1) →
          Post Γ (RepR Γ n own) W σ H I (o.ev ρ T) Q' := by
        intro Q' hQ
        refine Post.toD ((Post.step (rel := relD Γ) (show Post Γ (RepR Γ n own) W σ H I ((evD o.ev ρ T).bind _) Q from p) Ext.refl).imp fun xv H1 q1 => ?_)
        obtain ⟨d, T1, I1, _, x1, w1, r1, p1⟩ := q1
        have r1 : Rep Γ I1 d xv := r1
        split at p1
        · split at p1
          · rename_i hc
            subst hc
            have r1' := r1
            simp only [Rep] at r1'
            obtain ⟨b, dx, us, rfl, _⟩ := r1'
            exact hQ b H1 I1 T1 _ x1 w1 r1 p1
          · exact p1.elim
        · exact p1.elim
      have insAt : ∀ {b : Addr} {H1 : Hp} {I1 : Im} {T1 : Cs} {xs : List D}, Wf Γ H1 I1 T1 → Rep Γ I1 (.obj c xs) (.ref b) → ∃ dx fs, H1 b = some (.ins (cAd Γ c) dx fs) ∧ fs.lookup x = none := by
        intro b H1 I1 T1 xs w1 ro
        simp only [Rep] at ro
        obtain ⟨b', dx, us, e, h4, h5, _⟩ := ro
        cases e
        rw [CF.cd] at h4 h5
        refine ⟨dx, us, w1.gh _ _ h4, ?_⟩
        cases q : us.lookup x with
        | none => rfl
        | some v =>
          have := PySem.mem_of_lookup q
          exact absurd (by rw [← h5]; exact List.mem_map.mpr ⟨_, this, rfl⟩) hna
      refine PySem.W.methodCall_KW (thn (po.run pins sh σ H _ Iv ⟨I, ρ, T, own, w, er, step (fun xv H1' => ∃ b H1 I1 T1 xs, xv = V.ref b ∧ H1' = H1 ∧ Ext O0 H I H1 I1 ∧ Wf Γ H1 I1 T1 ∧ Rep Γ I1 (.obj c xs) (.ref b) ∧ Post Γ (RepR Γ n own) W σ H I ((a.ev ρ T1).bind fun ds T2 => (ev (.obj c xs :: ds) T2).bind fun lv T3 => Ev.opt (toR lv) T3) Q) fun b H1 I1 T1 xs x1 w1 ro p1 => ⟨b, H1, I1, T1, xs, rfl, rfl, x1, w1, ro, p1⟩⟩) ?_) (mcall_eq rfl hlen h4 hln)
      rintro u s1 ⟨xv, H1', Iv1, rx, b, H1, I1, T1, xs, rfl, rfl, x1, w1, ro, p1⟩
      obtain rfl : u = Value.ref b := rx
      obtain ⟨dx, fs, ea, l⟩ := insAt w1 ro
      refine getmeth_ok Iv1 (C := cAd Γ c) ea cl' M' l ?_
      refine PySem.W.callWith_K (first := [.ref b]) (h₀ := X.base) Iv.ok.mod.kin M'.kp (thn (pa.run pos pins s1 σ _ _ Iv1 ⟨I1, ρ, T1, own, w1, er.ext x1, Post.step (rel := relDs Γ) p1 x1⟩) ?_) (star_cons (b2 h4).1) (noStars_back (b2 h4).2)
      rintro us s2 ⟨vs, H2, Iv2, rv, ds, T2, I2, e2, x2, w2, r2, p2⟩
      exact ⟨Iv2.kIn, fin pins s2 σ H H2 Q I I2 T2 own us vs ds b xs Iv2 rv r2 (a.hlen e2) w2 (x1.tr0 x2) (Rep.mono x2.le ro) p2⟩
    · cases h
/-- o.m() -/
def cMeth0 (c : Nat) (m : Str) (s : DefSig) (ev : FEv) (o : CE) {sr : List Src} (B : BindOk s 1 [] sr) : CE where
  ev := methEv c ev (evD o.ev) (fun _ T => .ok [] T)
  chk := fun k sc e => match e with
    | .Call (.Attribute y x ap) [] [] cp => decide (sr = srcAll 1) && (noSup y && (decide (x = m) && ((ap.endLine == cp.line) && (decide (s.lv ≤ k) && o.chk k sc y))))
    | _ => false
  need := fun Γ => MethIs Γ c m s ev ∧ o.need Γ
  z := o.z
  ok := by
    intro Γ k W sc X e n g nd h hz
    obtain ⟨⟨CF, hna, f, M, F⟩, no⟩ := nd
    split at h
    · rename_i y x apos pos
      obtain ⟨h0, h⟩ := b2 h
      obtain ⟨hsup, hB⟩ := b2 h
      have e03 := of_decide_eq_true h0
      subst e03
      obtain ⟨h1, h⟩ := b2 hB
      obtain ⟨hln, h⟩ := b2 h
      obtain ⟨h3, h5⟩ := b2 h
      have hx := of_decide_eq_true h1
      subst hx
      have hlv := of_decide_eq_true h3
      have M' : Meth X.K (cAd Γ c) x f := by rw [g.K]; exact M
      have cl' : Cls X.K (cAd Γ c) := by rw [g.K]; exact CF.cl
      have po := o.ok (n := n) g no h5 hz
      refine ⟨fun pins sh σ H Q Iv ⟨I, ρ, T, own, w, er, p⟩ => ?_⟩
      have hpo : Post Γ (RepR Γ n own) W σ H I (o.ev ρ T) (fun xv H1 => ∃ b I1 T1 xs, xv = .ref b ∧ Ext O0 H I H1 I1 ∧ Wf Γ H1 I1 T1 ∧ Rep Γ I1 (.obj c xs) (.ref b) ∧ Post Γ (RepR Γ n own) W σ H I ((ev [.obj c xs] T1).bind fun lv T3 => Ev.opt (toR lv) T3) Q) := by
        refine Post.toD ((Post.step (rel := relD Γ) (show Post Γ (RepR Γ n own) W σ H I ((evD o.ev ρ T).bind _) Q from p) Ext.refl).imp fun xv H1 q1 => ?_)
        obtain ⟨d, T1, I1, _, x1, w1, r1, p1⟩ := q1
        have r1 : Rep Γ I1 d xv := r1
        split at p1
        · split at p1
          · rename_i hc
            subst hc
            have r1' := r1
            simp only [Rep] at r1'
            obtain ⟨b, dx, us, rfl, _⟩ := r1'
            exact ⟨b, I1, T1, _, rfl, x1, w1, r1, p1⟩
          · exact p1.elim
        · exact p1.elim
      refine PySem.W.methodCall_KW (thn (po.run pins sh σ H _ Iv ⟨I, ρ, T, own, w, er, hpo⟩) ?_) (mcall_eq (noSup_ok hsup _ _) (by decide) rfl hln)
      rintro u s1 ⟨xv, H1, Iv1, rx, b, I1, T1, xs, rfl, x1, w1, ro, p1⟩
      obtain rfl : u = Value.ref b := rx
      have ro' := ro
      simp only [Rep] at ro'
      obtain ⟨b', dx, us, e, h4, h5', _⟩ := ro'
      cases e
      rw [CF.cd] at h4 h5'
      refine getmeth_ok Iv1 (C := cAd Γ c) (w1.gh _ _ h4) cl' M' ?_ ?_
      · cases q : us.lookup x with
        | none => rfl
        | some v =>
          have := PySem.mem_of_lookup q
          exact absurd (by rw [← h5']; exact List.mem_map.mpr ⟨_, this, rfl⟩) hna
      · refine PySem.W.callWith_K0 (first := [.ref b]) Iv1.kIn M'.kp ?_
        exact call_end (n := n) (ks := []) (m := 1) (srcs := srcAll 1) (us := [.ref b]) (ws := []) (vs := [.ref b]) (zs := []) (ds := [.obj c xs]) (es := []) g F B hlv Iv1 (.cons rfl .nil) .nil (Reps.cons ro Reps.nil) Reps.nil rfl rfl w1 x1 p1
    · cases h
/-! ### properties -/
structure PropIs (Γ : Gam) (c : Nat) (m : Str) (s : DefSig) (ev : FEv) : Prop where
  cl : ClsFull Γ c
  ex : ∃ p f, PropOf Γ.K (cAd Γ c) m p f ∧ FnIs Γ s ev f
def propEv (c : Nat) (ev : FEv) (o : Env → Cs → Ev D) : Env → Cs → Ev R := fun ρ T => (o ρ T).bind fun d T1 => match d with
  | .obj c' xs => if c' = c then (match ev [.obj c xs] T1 with
    | .ok lv T3 => Ev.opt (toR lv) T3
    | _ => .no) else .no
  | _ => .no
/-- o.p -/
def cProp (c : Nat) (m : Str) (s : DefSig) (ev : FEv) (o : CE) {sr : List Src} (B : BindOk s 1 [] sr) : CE where
  ev := propEv c ev (evD o.ev)
  chk := fun k sc e => match e with
    | .Attribute y x _ => decide (sr = srcAll 1) && (decide (x = m) && (noSup y && (decide (s.lv + 1 ≤ k) && o.chk k sc y)))
    | _ => false
  need := fun Γ => PropIs Γ c m s ev ∧ o.need Γ
  z := o.z
  ok := by
    intro Γ k W sc X e n g nd h hz
    obtain ⟨⟨CF, pa, f, PO, F⟩, no⟩ := nd
    split at h
    · rename_i y x pos
      obtain ⟨h0, hB⟩ := b2 h
      have e03 := of_decide_eq_true h0
      subst e03
      obtain ⟨h1, h⟩ := b2 hB
      obtain ⟨h2, h⟩ := b2 h
      obtain ⟨h3, h5⟩ := b2 h
      have hx := of_decide_eq_true h1
      subst hx
      have hlv := of_decide_eq_true h3
      have cl' : Cls X.K (cAd Γ c) := by rw [g.K]; exact CF.cl
      have PO' : PropOf X.K (cAd Γ c) x pa f := by rw [g.K]; exact PO
      have po := o.ok (n := n) g no h5 hz
      refine ⟨fun pins sh σ H Q Iv ⟨I, ρ, T, own, w, er, p⟩ => ?_⟩
      have hpo : Post Γ (RepR Γ n own) W σ H I (o.ev ρ T) (fun xv H1 => ∃ b I1 T1 xs lv T3 r, xv = .ref b ∧ Ext O0 H I H1 I1 ∧ Wf Γ H1 I1 T1 ∧ Rep Γ I1 (.obj c xs) (.ref b) ∧ ev [.obj c xs] T1 = .ok lv T3 ∧ toR lv = some r ∧ ∀ v H' I', Ext O0 H I H' I' → Wf Γ H' I' T3 → RepR Γ n own H H' I' r v → Q v H') := by
        refine Post.toD ((Post.step (rel := relD Γ) (show Post Γ (RepR Γ n own) W σ H I ((evD o.ev ρ T).bind _) Q from p) Ext.refl).imp fun xv H1 q1 => ?_)
        obtain ⟨d, T1, I1, _, x1, w1, r1, p1⟩ := q1
        have r1 : Rep Γ I1 d xv := r1
        split at p1
        · split at p1
          · rename_i hc
            subst hc
            have r1' := r1
            simp only [Rep] at r1'
            obtain ⟨b, dx, us, rfl, _⟩ := r1'
            split at p1
            · rename_i lv T3 e3
              obtain ⟨r, e4, k4⟩ := Post.opt p1
              exact ⟨b, I1, T1, _, lv, T3, r, rfl, x1, w1, r1, e3, e4, k4⟩
            · exact p1.elim
          · exact p1.elim
        · exact p1.elim
      refine attr_of (noSup_ok h2 _ _) (thn (po.run pins sh σ H _ Iv ⟨I, ρ, T, own, w, er, hpo⟩) ?_)
      rintro u s1 ⟨xv, H1, Iv1, rx, b, I1, T1, xs, lv, T3, r, rfl, x1, w1, ro, e3, e4, k4⟩
      obtain rfl : u = Value.ref b := rx
      have ro' := ro
      simp only [Rep] at ro'
      obtain ⟨b', dx, us, e, h4, h5', _⟩ := ro'
      cases e
      rw [CF.cd] at h4 h5'
      obtain ⟨fd, FD, FG⟩ := F.fn
      obtain ⟨mA, O, _, _, _, _⟩ := ins_get Iv1.hok (w1.gh _ _ h4)
      obtain ⟨od, J, _⟩ := O.look
      obtain ⟨rest, hrec⟩ := PO'.rec_
      have Iv2 := Iv1.tok (s1.toks + 1)
      have hc : (PySem.W.clsIn X.K (cAd Γ c)).isSome = true := by
        obtain ⟨cd, hc, _⟩ := PySem.W.any_some cl'.hd
        rw [hc]; rfl
      have KI : Γ.K.In s1.heap := by rw [← g.K]; exact Iv1.kIn
      obtain ⟨its, ri, hb⟩ := bind_of (sh := { s1 with toks := s1.toks + 1 }) B FD KI (us := [.ref b]) (ws := []) rfl rfl
      have e0 : Env0 Γ.P Γ.w Γ.K Γ.mg Γ.base X.A X.stack { s1 with toks := s1.toks + 1 } H1 := by
        have := Iv2.env0
        rw [g.prog, g.w, g.K, g.mg, g.base] at this
        exact this
      have hsp : spD Γ s.ps.length ev (sel .non ([V.ref b] ++ []) (s.dfl.map constV) (srcAll 1)) H1 Q (fun _ _ _ => False) := by
        refine ⟨I1, T1, [.obj c xs], w1, Reps.cons ro Reps.nil, B.len, ?_⟩
        rw [e3]
        refine fun v H' I' as x' w' r' q' => k4 v H' I' (x1.tr0 x') w' (toR_ok e4 r' fun a ha => ?_)
        obtain ⟨q1, q2, q3, q4⟩ := q' a ha
        refine ⟨q1, q2, q3, ?_⟩
        cases e2 : H a with
        | none => rfl
        | some o => exact absurd q4 (x1.th a (by rw [e2]; simp))
      have hrun := FG.run X.A.in1 X.stack { s1 with toks := s1.toks + 1 } H1 ⟨[.ref b], []⟩ _ _ Q (fun _ _ _ => False) g.gd ((g.room.mono hlv).in1) e0.in1 hb (Tp.Vals.sel (Paired.cons (show RelV (.ref b) (.ref b) from rfl) .nil) ri _) hsp
      rw [← g.prog, ← g.w] at hrun
      refine PySem.W.get_bind Iv1.kIn J (PySem.W.plainGet_of (cl'.get x)).1 (PySem.W.findObj_data hc PO'.at_ PO'.get PO'.tak) (PySem.W.plainGet_of (cl'.get x)).2 (wpAny_call (PySem.W.prop_get (s := { s1 with toks := s1.toks + 1 }) Iv1.kIn hrec (codeAny_mono hrun ?_)))
      rintro r' s' hq
      match r', hq with
      | .error er, hq =>
        obtain ⟨_, _, _, _, _, _, _, _, _, _, _, _, z⟩ := hq
        exact z.elim
      | .ok (.ret u), hq =>
        obtain ⟨v, H', I3, rv, q3⟩ := Iv2.after hq
        show wpAny _ _ (handedOut u) _ _ _
        rw [PySem.W.handedOut_of (handed_of rv)]
        exact wpAny_pure ⟨v, H', I3, rv, q3⟩
      | .ok .next, hq => exact hq.elim
      | .ok .brk, hq => exact hq.elim
      | .ok .cont, hq => exact hq.elim
    · cases h
end Tp
end
section
set_option Elab.async false
set_option linter.all false
set_option maxRecDepth 100000
set_option maxHeartbeats 400000
/-! TpU: a zip at a name, walked at once by the comprehension that is handed on. -/
namespace Tp
open PySem PySem.Spec PyProof.Rows L2

def updL (H : Hp) : List (Addr × (Heap → Prop)) → Hp
  | [] => H
  | p :: r => upd (updL H r) p.1 (.ext p.2)
def dropL (H : Hp) : List Addr → Hp
  | [] => H
  | a :: r => dropL (ItX.dropH H a) r
section
variable {X : Cx} {pins : List (Addr × Obj)} {σ : L2.St} {H : Hp} {s : Shared} {h' : Heap}
theorem updL_new (I : L2.Inv X pins σ H s) : ∀ {l : List (Addr × (Heap → Prop))} {a : Addr}, s.heap.objs.size ≤ a → updL H l a = none ∨ ∃ φ, updL H l a = some (.ext φ)
  | [], a, h => .inl (I.hok.fresh h)
  | p :: r, a, h => by
    show upd (updL H r) p.1 (.ext p.2) a = none ∨ _
    by_cases e : a = p.1
    · subst e
      exact .inr ⟨p.2, by show upd _ _ _ _ = _; rw [upd_same]⟩
    · rw [upd_ne e]
      rcases updL_new I h with q | ⟨φ, q⟩
      · exact .inl q
      · exact .inr ⟨φ, by show upd _ _ _ _ = _; rw [upd_ne e]; exact q⟩
structure Laid (h h' : Heap) (p : Addr × (Heap → Prop)) : Prop where
  sz : h.objs.size ≤ p.1
  is : p.2 h'
  ob : ∃ o, h'.get? p.1 = some o
  st : ∀ h1 h2 : Heap, p.2 h1 → (∀ o, h1.get? p.1 = some o → h2.get? p.1 = some o) → p.2 h2
theorem laidL (I : L2.Inv X pins σ H s) (hk : ∀ b o, s.heap.get? b = some o → h'.get? b = some o) : ∀ {l : List (Addr × (Heap → Prop))}, (∀ p ∈ l, Laid s.heap h' p) → Un X.fs [] H (updL H l) s.heap h' ∧ HOk X.prog X.w (updL H l) h'
  | [], _ => ⟨Un.kept hk, I.hok.kept hk⟩
  | p :: r, hl => by
    obtain ⟨u, ok⟩ := laidL I hk (l := r) fun q hq => hl q (List.mem_cons_of_mem _ hq)
    have L := hl p List.mem_cons_self
    have hn := I.hok.fresh L.sz
    have other : ∀ b o, updL H r b = some o → (∀ φ, o ≠ .ext φ) → upd (updL H r) p.1 (.ext p.2) b = some o := fun b o e ne => by
      rw [upd_ne]
      · exact e
      · rintro rfl
        rcases updL_new I (l := r) L.sz with q | ⟨φ, q⟩
        · rw [q] at e; cases e
        · rw [q] at e; exact ne φ (Option.some.inj e).symm
    refine ⟨⟨u.keep, u.slot, fun b o e n hx => ?_, u.there, fun b xs q => other b _ (u.tups b xs q) (fun _ z => nomatch z), fun b o xs q => other b _ (u.frzs b o xs q) (fun _ z => nomatch z), fun b ps q => ?_⟩, fun b o e => ?_⟩
    · show upd (updL H r) p.1 _ b = none
      rw [upd_ne (Nat.ne_of_lt (Nat.lt_of_lt_of_le (Heap.lt_size e) L.sz))]
      exact u.free b o e n hx
    · obtain ⟨m, q2⟩ := u.tbls b ps q
      exact ⟨m, other b _ q2 (fun _ z => nomatch z)⟩
    · have e : upd (updL H r) p.1 (.ext p.2) b = some o := e
      by_cases hb : b = p.1
      · subst hb
        rw [upd_same] at e; cases e
        exact ⟨L.is, L.ob, L.st⟩
      · rw [upd_ne hb] at e
        exact (ok b o e).stay (fun _ _ _ q => q) (fun c q => other c _ q (fun _ z => nomatch z)) fun c xs q => other c _ q (fun _ z => nomatch z)
end
/-- the five parts of a zip just made -/
def zipPs (la lb z ti to i1 i2 : Addr) : List (Addr × (Heap → Prop)) :=
  [(z, fun h => IsZip h z ti to .none), (ti, fun h => IsPair h ti (.ref i1) (.ref i2)), (to, fun h => ∃ x y, IsPair h to x y), (i1, fun h => h.IsListIter i1 la 0), (i2, fun h => h.IsListIter i2 lb 0)]
structure NewZ (n : Nat) (H : Hp) (la lb z ti to i1 i2 : Addr) : Prop where
  ap : ZipApart z ti to i1 i2 la lb
  new : ∀ c, c ∈ [z, ti, to, i1, i2] → H c = none ∧ n ≤ c
def tZip (K : PySem.W.Frag) (n : Nat) (ta : TA) : TE := fun σ H Q => ta σ H fun vs H1 => ∃ la lb xs ys, vs = [.ref la, .ref lb] ∧ SqL K H1 la xs ∧ SqL K H1 lb ys ∧
  ∀ z ti to i1 i2, NewZ n H1 la lb z ti to i1 i2 → Q (.ref z) (updL H1 (zipPs la lb z ti to i1 i2))
theorem pe_zipN {X : Cx} {e e2 : Expr} {ta : TA} {p pos : Pos} (hg : Gl X "zip") (hm : X.mg "zip" = none) (ha : PA X [e, e2] ta) (hs : starEach [e, e2] X.env = (false, eval e X.env) :: starEach [e2] X.env) (hpl : (backTo pos (starEach [e2] X.env)).any (·.1) = false) :
    PE X (.Call (.Name "zip" p) [e, e2] [] pos) (tZip X.K X.s_0.heap.objs.size ta) := by
  refine ⟨fun pins s σ H Q I h => ?_⟩
  unfold tZip at h
  refine Call_ (ld_blt I hg hm PyProof.Rows.boot_zip ?_)
  refine PyProof.Rows.callWith_type1 (thn (ha.run pos pins s σ H _ I h) fun us s1 ⟨vs, H1, I1, r1, q1⟩ => ?_) hs hpl
  obtain ⟨la, lb, xs, ys, ex, hx, hy, q⟩ := q1
  subst ex
  cases r1 with
  | cons r rr =>
    cases rr with
    | cons r' rr =>
      cases rr
      cases r
      cases r'
      obtain ⟨its, rv, p1, _⟩ := I1.list hx
      obtain ⟨its2, rv2, p2, _⟩ := I1.list hy
      refine call_zip_2 p1.isList p2.isList fun h' hz hti hto h1 h2 hsz hk => ?_
      generalize hN : s1.heap.objs.size = N at hz hti hto h1 h2
      have lt1 := p1.lt
      have lt2 := p2.lt
      rw [hN] at lt1 lt2
      have hall : ∀ p ∈ zipPs la lb (N + 4) (N + 2) (N + 3) N (N + 1), Laid s1.heap h' p := by
        intro p hp
        simp only [zipPs, List.mem_cons, List.not_mem_nil, or_false] at hp
        rcases hp with rfl | rfl | rfl | rfl | rfl
        · exact ⟨by rw [hN]; exact Nat.le_add_right _ _, hz, ⟨_, hz⟩, fun h1 h2 q k => k _ q⟩
        · exact ⟨by rw [hN]; exact Nat.le_add_right _ _, hti, ⟨_, hti⟩, fun h1 h2 q k => k _ q⟩
        · exact ⟨by rw [hN]; exact Nat.le_add_right _ _, ⟨_, _, hto⟩, ⟨_, hto⟩, fun h1 h2 ⟨x, y, q⟩ k => ⟨x, y, k _ q⟩⟩
        · obtain ⟨o, q, _⟩ := id h1
          exact ⟨by rw [hN]; exact Nat.le_refl _, h1, ⟨o, q⟩, fun a b q k => q.at fun o z => k o z⟩
        · obtain ⟨o, q, _⟩ := id h2
          exact ⟨by rw [hN]; exact Nat.le_add_right _ _, h2, ⟨o, q⟩, fun a b q k => q.at fun o z => k o z⟩
      obtain ⟨u, ok⟩ := laidL I1 hk hall
      have new : ∀ c, c ∈ [N + 4, N + 2, N + 3, N, N + 1] → H1 c = none ∧ X.s_0.heap.objs.size ≤ c := fun c hc => by
        have hle : s1.heap.objs.size ≤ c := by
          simp only [List.mem_cons, List.not_mem_nil, or_false] at hc
          omega
        exact ⟨I1.hok.fresh hle, Nat.le_trans I1.sz hle⟩
      have hq := q (N + 4) (N + 2) (N + 3) N (N + 1) ⟨PySem.W.ktu_apart N la lb lt1 lt2, new⟩
      exact ⟨.ref (N + 4), _, I1.un (t' := s1.toks) u ok, rfl, hq⟩
/-- walked by its name, then forgotten -/
def iZpv (K : PySem.W.Frag) (n i : Nat) : TI := fun σ H R => ∃ z ti to i1 i2 la lb, σ[i]? = some (some (.ref z)) ∧ (∀ p ∈ zipPs la lb z ti to i1 i2, H p.1 = some (.ext p.2)) ∧ ZipApart z ti to i1 i2 la lb ∧ (∀ c, c ∈ [z, ti, to, i1, i2] → n ≤ c) ∧ R (Itz K la lb) (dropL H [z, ti, to, i1, i2])
theorem dropL_none {b : Addr} : ∀ {l : List Addr} {H : Hp}, H b = none → dropL H l b = none
  | [], _, h => h
  | a :: r, H, h => by
    refine dropL_none (l := r) ?_
    by_cases e : b = a
    · subst e; exact ItX.dropH_same
    · rw [ItX.dropH_ne e]; exact h
theorem dropL_in {b : Addr} : ∀ {l : List Addr} {H : Hp}, b ∈ l → dropL H l b = none
  | [], _, h => by cases h
  | a :: r, H, h => by
    by_cases e : b = a
    · subst e
      exact dropL_none (l := r) ItX.dropH_same
    · exact dropL_in (l := r) ((List.mem_cons.mp h).resolve_left e)
theorem dropL_out {b : Addr} : ∀ {l : List Addr} {H : Hp}, b ∉ l → dropL H l b = H b
  | [], _, _ => rfl
  | a :: r, H, h => by
    simp only [List.mem_cons, not_or] at h
    have : dropL (ItX.dropH H a) r b = ItX.dropH H a b := dropL_out (l := r) h.2
    show dropL (ItX.dropH H a) r b = _
    rw [this, ItX.dropH_ne h.1]
theorem invL_drop {X : Cx} {pins : List (Addr × Obj)} {σ : L2.St} {s : Shared} : ∀ {l : List Addr} {H : Hp}, L2.Inv X pins σ H s → (∀ a ∈ l, ∃ φ, H a = some (.ext φ)) → l.Nodup → L2.Inv X pins σ (dropL H l) s
  | [], _, I, _, _ => I
  | a :: r, H, I, h, nd => by
    obtain ⟨φ, e⟩ := h a List.mem_cons_self
    refine invL_drop (l := r) (ItX.inv_drop I e) (fun b hb => ?_) (List.nodup_cons.mp nd).2
    obtain ⟨ψ, q⟩ := h b (List.mem_cons_of_mem _ hb)
    refine ⟨ψ, ?_⟩
    rw [ItX.dropH_ne]
    · exact q
    · rintro rfl
      exact (List.nodup_cons.mp nd).1 hb
theorem five_nd {z ti to i1 i2 la lb : Addr} (D : ZipApart z ti to i1 i2 la lb) : [z, ti, to, i1, i2].Nodup := by
  simp only [List.nodup_cons, List.mem_cons, List.not_mem_nil, or_false, not_or, List.nodup_nil, and_true, not_false_iff]
  exact ⟨⟨D.TIz.symm, D.TOz.symm, D.i1z.symm, D.i2z.symm⟩, ⟨D.TITO, D.TIi1, D.TIi2⟩, ⟨D.TOi1, D.TOi2⟩, D.i12⟩
theorem pi_zpv {X : Cx} {i : Nat} {x : Str} {p : Pos} {elts : List Expr} {kk : Nat} {tpos : Pos} (hv : PE X (.Name x p) (tVar i)) : PI X (.Tuple elts kk tpos) (.Name x p) (iZpv X.K X.s_0.heap.objs.size i) := by
  refine ⟨fun pins s σ H R I h => ?_⟩
  obtain ⟨z, ti, to, i1, i2, la, lb, hs, hp, D, hn, q⟩ := h
  refine thn (hv.run pins s σ H (fun v H1 => v = .ref z ∧ H1 = H) I ⟨.ref z, hs, rfl, rfl⟩) ?_
  rintro u s1 ⟨v, H1, I1, r1, ev, eH⟩
  subst ev eH
  cases r1
  have hob : ∀ p ∈ zipPs la lb z ti to i1 i2, p.2 s1.heap := fun p hp' => (I1.hok p.1 _ (hp p hp')).1
  have o1 := hob (z, fun h => IsZip h z ti to .none) (by simp [zipPs])
  have o2 := hob (ti, fun h => IsPair h ti (.ref i1) (.ref i2)) (by simp [zipPs])
  have o3 := hob (to, fun h => ∃ x y, IsPair h to x y) (by simp [zipPs])
  have o4 := hob (i1, fun h => h.IsListIter i1 la 0) (by simp [zipPs])
  have o5 := hob (i2, fun h => h.IsListIter i2 lb 0) (by simp [zipPs])
  have hx : ∀ c, c ∈ [z, ti, to, i1, i2] → ∃ φ, H1 c = some (.ext φ) := fun c hc => by
    simp only [List.mem_cons, List.not_mem_nil, or_false] at hc
    rcases hc with rfl | rfl | rfl | rfl | rfl
    · exact ⟨_, hp _ (by simp [zipPs]; exact .inl rfl)⟩
    · exact ⟨_, hp (c, fun h => IsPair h c (.ref i1) (.ref i2)) (by simp [zipPs])⟩
    · exact ⟨_, hp (c, fun h => ∃ x y, IsPair h c x y) (by simp [zipPs])⟩
    · exact ⟨_, hp (c, fun h => h.IsListIter c la 0) (by simp [zipPs])⟩
    · exact ⟨_, hp (c, fun h => h.IsListIter c lb 0) (by simp [zipPs])⟩
  refine wpAny_pyIter_zip o1 ?_
  refine ⟨z, [z, ti, to, i1, i2], _, _, dropL H1 [z, ti, to, i1, i2], rfl, invL_drop I1 hx (five_nd D), turn_zip D, ⟨o1, o2, o3, o4, o5⟩, fun b hb => ?_, q⟩
  obtain ⟨φ, e⟩ := hx b hb
  exact ⟨dropL_in hb, (ItX.inv_fp I1 e (hn b hb)).2⟩
theorem updL_at {H : Hp} : ∀ {l : List (Addr × (Heap → Prop))}, (l.map (·.1)).Nodup → ∀ p ∈ l, updL H l p.1 = some (.ext p.2)
  | [], _, _, h => by cases h
  | q :: r, nd, p, h => by
    have nd2 := List.nodup_cons.mp nd
    show upd (updL H r) q.1 (.ext q.2) p.1 = _
    rcases List.mem_cons.mp h with e | e
    · subst e; rw [upd_same]
    · rw [upd_ne]
      · exact updL_at nd2.2 p e
      · intro z
        exact nd2.1 (List.mem_map.mpr ⟨p, e, z⟩)
theorem updL_out {H : Hp} {b : Addr} : ∀ {l : List (Addr × (Heap → Prop))}, b ∉ l.map (·.1) → updL H l b = H b
  | [], _ => rfl
  | q :: r, h => by
    rw [List.map_cons, List.mem_cons, not_or] at h
    show upd (updL H r) q.1 (.ext q.2) b = _
    rw [upd_ne h.1]
    exact updL_out h.2
theorem drop_upd {H : Hp} {l : List (Addr × (Heap → Prop))} (hn : ∀ c, c ∈ l.map (·.1) → H c = none) : dropL (updL H l) (l.map (·.1)) = H := by
  funext b
  by_cases hb : b ∈ l.map (·.1)
  · rw [dropL_in hb, hn b hb]
  · rw [dropL_out hb, updL_out hb]
theorem lc_zip {Γ : Gam} {n : Nat} {W : WX} {K : PySem.W.Frag} {m i : Nat} {gev : D → Env → Cs → Ev Env} {cev : Env → Cs → Ev Bool} {eev : Env → Cs → Ev D} {sl vs : List Nat} (hs : ∀ j, j ∈ sl → j ∈ vs)
    (hp : ∀ d ρ T ρ1 T1, gev d ρ T = .ok ρ1 T1 → ρ1.length = ρ.length ∧ ∀ j, j ∉ sl → ρ1[j]? = ρ[j]?) {σ σe : L2.St} {H2 : Hp} {Q : VK} {I2 : Im} {ρ : Env} {T1 : Cs} {own : Nat → List Addr} {ds : List D} {z ti to i1 i2 la lb : Addr} (hz : σ[i]? = some (some (.ref z))) (nw : NewZ m H2 la lb z ti to i1 i2)
    (w2 : Wf Γ H2 I2 T1) (er : ER Γ n σ ρ H2 I2 own) (wk : Walk Γ (Itz K la lb) I2 ds) (p : PostLc Γ W σe H2 I2 (noX (lcEv gev cev eev (forget ρ vs) ds T1)) Q) :
    tLc (iZpv K m i) (tGt Γ n W0 sl true gev) (tT Γ n W0 cev) (tD Γ n W0 eev) vs σ (updL H2 (zipPs la lb z ti to i1 i2)) Q := by
  have hnew : ∀ c, c ∈ (zipPs la lb z ti to i1 i2).map (·.1) → H2 c = none := fun c hc => (nw.new c hc).1
  refine ⟨z, ti, to, i1, i2, la, lb, hz, fun p hp => updL_at (l := zipPs la lb z ti to i1 i2) (five_nd nw.ap) p hp, nw.ap, fun c hc => (nw.new c hc).2, ?_⟩
  have hd : dropL (updL H2 (zipPs la lb z ti to i1 i2)) [z, ti, to, i1, i2] = H2 := drop_upd hnew
  rw [hd]
  exact lc_walk hs hp Ext.refl w2 er wk p
/-- x = zip(a, b); return f(y, [e for t in x]) -/
def zip2Ev (i j : Nat) (a b : Env → Cs → Ev D) (g : D → Env → Cs → Ev Env) (e : Env → Cs → Ev D) (vs : List Nat) (ev : FEv) (srcs : List Src) (dfl : List D) : Env → Cs → Ev Fl := fun ρ T => (a ρ T).bind fun x T1 => (b ρ T1).bind fun y T2 => match dLst x, dLst y, (if i < ρ.length then (forget ρ [i])[j]? else none) with
  | some xs, some ys, some (some (.sh d)) => (noX (lcEv g (evC none) e (forget (forget ρ [i]) vs) (zipD xs ys) T2)).bind fun out T3 => if out.length ≤ lim then (ev (sel .non [d, .lst out] dfl srcs) T3).bind fun lv T4 => (match lv with
    | .sh d => .ok (.rt (.sh d)) T4
    | .ow xs => .ok (.rt (.ow xs)) T4
    | .od xs => .ok (.rt (.od xs)) T4
    | _ => .no) else .no
  | _, _, _ => .no
def sZip2 (i j : Nat) (a b : CE) (t : CG) (e : CE) (own : List (Str × Nat)) (s : DefSig) (ev : FEv) (srcs : List Src) (B : BindOk s 2 [] srcs) : CS where
  ev := zip2Ev i j (evD a.ev) (evD b.ev) t.ev (evD e.ev) (own.map (·.2)) ev srcs s.dfl
  chk := fun k sc st => match st with
    | [.Assign [.Name x _] (.Call (.Name zn _) [y1, y2] [] _) _, .Return (some (.Call (.Name f _) [.Name fx fp, .ListComp elt [⟨.Tuple te tk tp, .Name x' p', [], 0⟩] scope _] [] _)) _] =>
      okStore sc i x && (decide (zn = ("zip" : Str)) && (isGl sc.nm zn && ((notStar y1 && notStar y2) && ((a.chk k sc y1 && b.chk k sc y2) && (isVar sc i x' && (isVar sc j fx && (decide (f = s.nm) && (okName f && (isGl sc.nm f && (decide (s.lv ≤ k) &&
        (blkC sc.N { kind := .function, names := sc.nm, isGenerator := false, isCoroutine := false } scope own && (t.pure && (!t.z && (!e.z && (t.sl.all (fun j => decide (j ∈ own.map (·.2))) && (t.chk k (scIn sc scope) (.Tuple te tk tp) && e.chk k (scIn sc scope) elt))))))))))))))))
    | _ => false
  need := fun Γ => Γ.mg "zip" = none ∧ a.need Γ ∧ b.need Γ ∧ t.need Γ ∧ e.need Γ ∧ ∃ f, Γ.mg s.nm = some (.ref f) ∧ FnIs Γ s ev f
  ok := by
    intro Γ k W sc X st g nd h
    obtain ⟨nz, na, nb, nt, ne, f, hm, F⟩ := nd
    split at h
    · rename_i x xp zn zp y1 y2 cp ap fn fnp fx fp elt te tk tp x' p' scope lp cp2 rp
      obtain ⟨h1, h⟩ := b2 h
      obtain ⟨h2, h⟩ := b2 h
      obtain ⟨h3, h⟩ := b2 h
      obtain ⟨h4, h⟩ := b2 h
      obtain ⟨h4, h4b⟩ := b2 h4
      obtain ⟨h5, h⟩ := b2 h
      obtain ⟨h5, h5b⟩ := b2 h5
      obtain ⟨h6, h⟩ := b2 h
      obtain ⟨h7, h⟩ := b2 h
      obtain ⟨h8, h⟩ := b2 h
      obtain ⟨h9, h⟩ := b2 h
      obtain ⟨h10, h⟩ := b2 h
      obtain ⟨h11, h⟩ := b2 h
      obtain ⟨k1, h⟩ := b2 h
      obtain ⟨k2, h⟩ := b2 h
      obtain ⟨k3, h⟩ := b2 h
      obtain ⟨k4, h⟩ := b2 h
      obtain ⟨k5, h⟩ := b2 h
      obtain ⟨k6, k7⟩ := b2 h
      have hz := of_decide_eq_true h2
      subst hz
      have hf := of_decide_eq_true h8
      subst hf
      have hlv := of_decide_eq_true h11
      obtain ⟨s1, s2, s3⟩ := okStore_ok g h1
      obtain ⟨d1, _, _⟩ := okName_d h9
      have hm' : X.mg s.nm = some (.ref f) := by rw [g.mg]; exact hm
      have hkp : PySem.W.keepIn X.K (.ref f) = true := by rw [g.K]; exact F.kp
      have bo := blkOk_by k1
      have bo' : BlkOk X.N X.env.scope scope own := ⟨bo.kind, bo.uniq, by rw [g.N]; exact bo.ix, fun y hy e => by rw [g.nm]; exact bo.free y hy e, by rw [g.N]; exact bo.own⟩
      have hg : ∀ sh H C cl fp, PG (X.blk sh H scope (compEnvC scope cl C X.env) fp) (.Tuple te tk tp) (tGt Γ X.s_0.heap.objs.size W0 t.sl true t.ev) := fun sh H C cl fp => by
        have := t.pg (n := X.s_0.heap.objs.size) (goodIn g bo.kind sh H C cl fp) nt k6 (fun z => by rw [z] at k3; cases k3)
        rw [k2] at this
        exact this
      have he : ∀ sh H C cl fp, PE (X.blk sh H scope (compEnvC scope cl C X.env) fp) elt (tD Γ X.s_0.heap.objs.size W0 (evD e.ev)) := fun sh H C cl fp =>
        PE.mono (e.ok (n := X.s_0.heap.objs.size) (goodIn g bo.kind sh H C cl fp) ne k7 fun z => by rw [z] at k4; cases k4) fun σ H Q q => tD_of σ H Q q
      have plc := pe_lc (elt := elt) (iter := .Name x' p') (pos := lp) g.calm g.nd (pi_zpv (elts := te) (kk := tk) (tpos := tp) (isVar_ok g h6)) bo' hg (fun sh H C cl fp => evC_ok (c := none) (e := []) (n := X.s_0.heap.objs.size) (goodIn g bo.kind sh H C cl fp) True.intro rfl) he (fun _ => rfl)
      have pcall : PE X (.Call (.Name s.nm fnp) [.Name fx fp, .ListComp elt [⟨.Tuple te tk tp, .Name x' p', [], 0⟩] scope lp] [] cp2) (fun σ H Q => tCons (tVar j) (tCons (tLc (iZpv X.K X.s_0.heap.objs.size i) (tGt Γ X.s_0.heap.objs.size W0 t.sl true t.ev) (tT Γ X.s_0.heap.objs.size W0 (evC none)) (tD Γ X.s_0.heap.objs.size W0 (evD e.ev)) (own.map (·.2))) tNil) σ H fun vs H1 =>
          ∃ I1 T1 ds own' Hs Is, Wf Γ H1 I1 T1 ∧ Reps Γ I1 ds vs ∧ ds.length = 2 ∧ Ext O0 Hs Is H1 I1 ∧ Post Γ (RepR Γ X.s_0.heap.objs.size own') W σ Hs Is ((ev (sel .non (ds ++ []) s.dfl srcs) T1).bind fun lv T3 => Ev.opt (toR lv) T3) Q) := by
        refine ⟨fun pins sh σ H Q Iv hq => wpAny_Call_Name_kw (ld_glob Iv (isGl_ok g.nm h10) hm' ?_ d1)⟩
        refine PySem.W.callWith_K (h₀ := X.base) Iv.ok.mod.kin hkp (thn ((pa_cons (isVar_ok g h7) (pa_cons plc pa_nil)).run cp2 pins sh σ H _ Iv hq) ?_) rfl rfl
        rintro us s2 ⟨vs, H2, Iv2, rv, I1, T1, ds, own', Hs, Is, w1, r1, hl, xx, pp⟩
        exact ⟨Iv2.kIn, call_end (zs := []) (es := []) (ws := []) (ks := []) g F B hlv Iv2 rv .nil r1 Reps.nil hl rfl w1 xx pp⟩
      refine PSs.mono (pss_cons (ps_set (i := i) g.nd s1 s2 (pe_zipN (isGl_ok g.nm h3) (by rw [g.mg]; exact nz) (pa_cons (a.ok (n := X.s_0.heap.objs.size) g na h5 fun _ => rfl) (pa_cons (b.ok (n := X.s_0.heap.objs.size) g nb h5b fun _ => rfl) pa_nil (star_cons h4b)) (star_cons h4)) (star_cons h4) (by rw [star_cons h4b]; rfl)) rfl s3) (pss_one (ps_ret pcall))) fun D σ H q => ?_
      obtain ⟨I, ρ, T, ow, w, er, p⟩ := q
      have p : PostS Γ X.s_0.heap.objs.size W D (Ow ow) H I (zip2Ev i j (evD a.ev) (evD b.ev) t.ev (evD e.ev) (own.map (·.2)) ev srcs s.dfl ρ T) := p
      refine ⟨I, ρ, T, ow, w, er, Post.toD ((PostS.step (rel := relD Γ) p Ext.refl).imp fun xv H1 q1 => ?_)⟩
      obtain ⟨xd, T1, I1, _, x1, w1, r1, p1⟩ := q1
      refine ⟨I1, ρ, T1, ow, w1, er.ext x1, Post.toD ((PostS.step (rel := relD Γ) p1 x1).imp fun yv H2 q2 => ?_)⟩
      obtain ⟨yd, T2, I2, _, x2, w2, r2, p2⟩ := q2
      have r1 : Rep Γ I1 xd xv := r1
      have r2 : Rep Γ I2 yd yv := r2
      split at p2
      · rename_i xs ys d ea eb ej
        obtain ⟨la, vs, rfl, l3, l4⟩ := dLst_ok ea (Rep.mono x2.le r1)
        obtain ⟨lb, us, rfl, m3, m4⟩ := dLst_ok eb r2
        refine ⟨la, lb, vs, us, rfl, by rw [g.K]; exact SqL.ext w2.gh l3, by rw [g.K]; exact SqL.ext w2.gh m3, fun z ti to i1 i2 nw => ?_⟩
        have er2 := (er.ext x1).ext x2
        obtain ⟨ow2, er3, ho⟩ := er2.less (forget_len ρ [i]) fun i lv e => forget_some e
        have er4 : ER Γ X.s_0.heap.objs.size (σ.set i (some (.ref z))) (forget ρ [i]) H2 I2 ow2 := er3.slots (List.length_set) fun m lv e => List.getElem?_set_ne fun hh => forget_notin e (by simp [hh])
        have hil0 : i < ρ.length := by
          by_cases hi : i < ρ.length
          · exact hi
          · rw [if_neg hi] at ej; cases ej
        rw [if_pos hil0] at ej
        have hil : i < σ.length := by rw [er.len]; exact hil0
        obtain ⟨dv, e1, e2⟩ := er4.at_ j _ ej
        have wk : Walk Γ (Itz X.K la lb) I2 (zipD xs ys) := by
          rw [g.K]; exact Walk.zip l3 l4 m3 m4
        refine ⟨dv, e1, lc_zip (W := W) (σe := σ.set i (some (.ref z))) (fun j hj => of_decide_eq_true (List.all_eq_true.mp k5 j hj)) (t.hp k2) (List.getElem?_set_self hil) nw w2 er4 wk ?_⟩
        cases e0 : lcEv t.ev (evC none) (evD e.ev) (forget (forget ρ [i]) (own.map (·.2))) (zipD xs ys) T2 with
        | no => rw [e0] at p2; exact p2.elim
        | ex y T' => rw [e0] at p2; exact p2.elim
        | ok out T3 =>
          rw [e0] at p2
          have p2 : PostS Γ X.s_0.heap.objs.size W D (Ow ow) H I (if out.length ≤ lim then (ev (sel .non [d, .lst out] s.dfl srcs) T3).bind fun lv T4 => (match lv with
            | .sh d => .ok (.rt (.sh d)) T4
            | .ow xs => .ok (.rt (.ow xs)) T4
            | .od xs => .ok (.rt (.od xs)) T4
            | _ => .no) else .no) := p2
          split at p2
          · rename_i hlim
            refine ⟨hlim, fun L H' I' ws xx ww hn hH rr hG hK => ?_⟩
            have fz := xx.frz (o := .lst ws) hn hG
            have le : Im.Le I' ⟨upd I'.G L (.lst ws), I'.κ, I'.me⟩ := Im.Le.frz hG
            refine ⟨_, T3, [d, .lst out], ow2, H2, I2, ww.freeze hH hG hK, Reps.cons (Rep.mono fz.le e2.2) (Reps.cons (.ofLst (show upd I'.G L (.lst ws) L = _ from upd_same) (rr.mono le)) Reps.nil), rfl, fz, ?_⟩
            have x12 : Ext O0 H I H2 I2 := x1.tr0 x2
            show Post Γ _ W _ H2 I2 ((ev (sel .non [d, .lst out] s.dfl srcs) T3).bind fun lv T3 => Ev.opt (toR lv) T3) D.rt
            cases e3 : ev (sel .non [d, .lst out] s.dfl srcs) T3 with
            | no => rw [e3] at p2; exact p2
            | ex y T' => rw [e3] at p2; exact fun cls dd H9 I9 x9 w9 r9 => p2 cls dd _ H9 I9 ((x12.tr0 x9).mono fun _ q => q.elim) w9 r9
            | ok lv T4 =>
              rw [e3] at p2
              have fin : ∀ lv', toR lv' = some (.v lv') → FlP Γ X.s_0.heap.objs.size D (Ow ow) H I T4 (.rt lv') → Post Γ (RepR Γ X.s_0.heap.objs.size ow2) W (σ.set i (some (.ref z))) H2 I2 (Ev.opt (toR lv') T4) D.rt := by
                intro lv' ht pf
                rw [ht]
                intro v H9 I9 x9 w9 ⟨as, q1, q2⟩
                refine pf v H9 I9 as ((x12.tr0 x9).mono fun _ q => q.elim) w9 q1 fun a ha => ?_
                obtain ⟨f1, f2, f3, f4⟩ := q2 a ha
                refine ⟨f1, f2, f3, .inr ?_⟩
                cases e5 : H a with
                | none => rfl
                | some o => exact absurd f4 (x12.th a (by rw [e5]; simp))
              cases lv with
              | sh d => exact fin _ rfl p2
              | ow xs => exact fin _ rfl p2
              | od xs => exact fin _ rfl p2
              | oo c xs => exact p2.elim
              | zp xs ys => exact p2.elim
          · exact p2.elim
      · exact p2.elim
    · cases h
end Tp
end
section
set_option Elab.async false
set_option linter.all false
set_option maxRecDepth 100000
set_option maxHeartbeats 2000000
/-! TpV: repr of plain data. -/
namespace Tp
open PySem PySem.Spec PyProof.Rows L2

mutual
/-- how long the text is at most -/
def shB : PyData → Option Nat
  | .none => some 4
  | .bool _ => some 5
  | .int i => if -1000000000000000000 < i ∧ i < 1000000000000000000 then some 19 else none
  | .str x => some (reprText x).length
  | .list xs => (shBs xs).map fun n => n + 2
  | .tuple xs => (shBs xs).map fun n => n + 3
  | .dict _ => none
def shBs : List PyData → Option Nat
  | [] => some 0
  | x :: xs => (shB x).bind fun a => (shBs xs).map fun b => a + 2 + b
end
theorem textFrom_up : ∀ (ts : List Str) (k : Nat) (acc : Str), (textFrom k acc ts).length ≤ acc.length + piled ts
  | [], k, acc => by simp [piled, textFrom]
  | t :: ts, k, acc => by
    have h := textFrom_up ts (k + 1) (acc ++ Str.ofString (if k > 0 then ", " else "" : String) ++ t)
    have e : (Str.ofString (if k > 0 then ", " else "" : String)).length ≤ 2 := by split <;> decide
    rw [Str.length_append, Str.length_append] at h
    show (textFrom (k + 1) (acc ++ Str.ofString (if k > 0 then ", " else "" : String) ++ t) ts).length ≤ _
    rw [piled_cons]
    omega
theorem tupleText_up (ts : List Str) : (tupleText ts).length ≤ piled ts + 3 := by
  have e0 : (Str.ofString "(").length = 1 := by decide
  have e1 : (Str.ofString (if ts.length == 1 then ",)" else ")" : String)).length ≤ 2 := by split <;> decide
  show ((Str.ofString "(" ++ Str.join ", " ts) ++ Str.ofString (if ts.length == 1 then ",)" else ")" : String)).length ≤ _
  rw [Str.length_append, Str.length_append]
  by_cases h : ts = []
  · subst h
    have e2 : (Str.join (Str.ofString ", ") ([] : List Str)).length = 0 := by decide
    show _ + (Str.join (Str.ofString ", ") ([] : List Str)).length + _ ≤ _
    simp only [piled, List.map_nil, List.sum_nil] at *
    omega
  · have := join_length_add ts h
    omega
theorem boolText_up (b : Bool) : (Str.ofString (if b then "True" else "False" : String)).length ≤ 5 := by cases b <;> decide
mutual
theorem shB_ok : ∀ (p : PyData) (n : Nat), shB p = some n → p.shown.length ≤ n ∧ p.showable = true ∧ p.hasDict = false
  | .none, n, h => by
    simp only [shB] at h; cases h
    exact ⟨by simp only [PyData.shown]; decide, by simp only [PyData.showable], by simp only [PyData.hasDict]⟩
  | .bool b, n, h => by
    simp only [shB] at h; cases h
    exact ⟨by cases b <;> decide, by simp only [PyData.showable], by simp only [PyData.hasDict]⟩
  | .int i, n, h => by
    simp only [shB] at h
    split at h
    · rename_i q
      cases h
      have q1 : i.natAbs < 10 ^ 18 := by have : (10:Nat) ^ 18 = 1000000000000000000 := by decide
                                         omega
      refine ⟨?_, ?_, by simp only [PyData.hasDict]⟩
      · simp only [PyData.shown]
        show (Str.ofString (toString i)).length ≤ 19
        rw [PySem.ofString_length]
        exact int_text_length_le10 (by decide) q1
      · simp only [PyData.showable]
        by_cases h0 : i.natAbs = 0
        · rw [h0]; decide
        have : i.natAbs.log2 < 64 := (Nat.log2_lt h0).mpr (Nat.lt_of_lt_of_le q1 (by decide))
        exact decide_eq_true (by omega)
    · cases h
  | .str x, n, h => by
    simp only [shB] at h; cases h
    exact ⟨by simp only [PyData.shown]; omega, by simp only [PyData.showable], by simp only [PyData.hasDict]⟩
  | .list xs, n, h => by
    simp only [shB] at h
    obtain ⟨m, h1, rfl⟩ := Option.map_eq_some_iff.mp h
    obtain ⟨a, b, c⟩ := shBs_ok xs m h1
    refine ⟨?_, by simp only [PyData.showable]; exact b, by simp only [PyData.hasDict]; exact c⟩
    simp only [PyData.shown]
    show ((textFrom 0 (Str.ofString "[") (PyData.shownAll xs)) ++ Str.ofString "]").length ≤ _
    have e1 : (Str.ofString "]").length = 1 := by decide
    have e0 : (Str.ofString "[").length = 1 := by decide
    have := textFrom_up (PyData.shownAll xs) 0 (Str.ofString "[")
    rw [Str.length_append]
    omega
  | .tuple xs, n, h => by
    simp only [shB] at h
    obtain ⟨m, h1, rfl⟩ := Option.map_eq_some_iff.mp h
    obtain ⟨a, b, c⟩ := shBs_ok xs m h1
    refine ⟨?_, by simp only [PyData.showable]; exact b, by simp only [PyData.hasDict]; exact c⟩
    simp only [PyData.shown]
    have := tupleText_up (PyData.shownAll xs)
    omega
  | .dict _, n, h => by simp only [shB] at h; cases h
theorem shBs_ok : ∀ (ps : List PyData) (n : Nat), shBs ps = some n → piled (PyData.shownAll ps) ≤ n ∧ PyData.showableAll ps = true ∧ PyData.hasDictAll ps = false
  | [], n, h => by
    simp only [shBs] at h; cases h
    exact ⟨by simp [PyData.shownAll, piled], by simp only [PyData.showableAll], by simp only [PyData.hasDictAll]⟩
  | x :: xs, n, h => by
    simp only [shBs] at h
    obtain ⟨a, h1, h2⟩ := Option.bind_eq_some_iff.mp h
    obtain ⟨b, h3, rfl⟩ := Option.map_eq_some_iff.mp h2
    obtain ⟨p1, p2, p3⟩ := shB_ok x a h1
    obtain ⟨q1, q2, q3⟩ := shBs_ok xs b h3
    refine ⟨?_, by simp only [PyData.showableAll, p2, q2]; rfl, by simp only [PyData.hasDictAll, p3, q3]; rfl⟩
    simp only [PyData.shownAll]
    rw [piled_cons]
    omega
end
def okShow (p : PyData) : Bool := match shB p with
  | some n => decide (n ≤ 1000000) && decide (p.depth ≤ 60)
  | none => false
def gRepr (a : R) : Option R := (rPy a).bind fun p => if okShow p then some (.v (.sh (.str p.shown))) else none
def rShow (K : PySem.W.Frag) : List V → Hp → VK → Prop := fun xs H Q => ∃ v p, xs = [v] ∧ Dp K H v p ∧ okShow p = true ∧ Q (.str p.shown) H
theorem cr_repr {Γ : Gam} {k : Nat} {W : WX} {sc : Sc} {X : Cx} (g : Good Γ k W sc X) : CallR X (.builtin "repr") (rShow X.K) := by
  intro pins s σ H vs us Q I r h
  obtain ⟨v, p, rfl, hd, hs, q⟩ := h
  unfold okShow at hs
  split at hs
  case h_2 => cases hs
  rename_i m e
  obtain ⟨h1, h2⟩ := b2 hs
  have h1 := of_decide_eq_true h1
  have h2 := of_decide_eq_true h2
  obtain ⟨c1, c2, c3⟩ := shB_ok p m e
  have hsz : p.shown.length ≤ sizeLine := by rw [sizeLine_eq]; omega
  cases r with
  | cons r1 r2 =>
    cases r2
    rename_i u
    have road : ∀ a, u = .ref a → wpAny (model X.prog X.w) X.A (call (.builtin "repr") [u]) (fun u s' => ∃ v H', L2.Inv X pins σ H' s' ∧ RelV v u ∧ Q v H') X.xe s := fun a hu => by
      obtain ⟨as, rd⟩ := Dp.reads I p v u hd r1
      subst hu
      exact repr_of_reads' rd c2 (PyData.noDict_hsm c3) g.gd (by have := g.room.un; omega) (fun _ _ h => h) (fun h' u' tk hk => ⟨.str _, H, I.kept hk, ⟨_, rfl⟩, q⟩) hsz
    cases hd with
    | non => cases r1; simp only [PyData.shown] at q; exact PySem.P.repr_of_none ⟨.str _, H, I.tok _, ⟨_, rfl⟩, q⟩
    | bl b => cases r1; simp only [PyData.shown] at q; exact PySem.P.repr_of_bool ⟨.str _, H, I.tok _, ⟨_, rfl⟩, q⟩
    | int i => obtain ⟨t, rfl⟩ := r1; simp only [PyData.shown] at q; simp only [PyData.showable] at c2; exact PySem.P.repr_of_int (of_decide_eq_true c2) ⟨.str _, H, I.tok _, ⟨_, rfl⟩, q⟩
    | str x => obtain ⟨t, rfl⟩ := r1; simp only [PyData.shown] at q hsz; exact PySem.P.repr_of_str ⟨.str _, H, I.tok _, ⟨_, rfl⟩, q⟩ hsz
    | lst _ _ => obtain ⟨rfl⟩ := r1; exact road _ rfl
    | tup _ _ => obtain ⟨rfl⟩ := r1; exact road _ rfl
def bRepr : Blt := bltF "repr" "repr" (f1 gRepr) PyProof.Rows.boot_repr fun {Γ k W sc X n} g => by
  refine CallR.mono (cr_repr g) (rdN_one (fun _ _ => f1_one) fun H I T own Hs a c x Q w ra e q => ?_)
  have e1 : gRepr a = some c := e
  obtain ⟨p, e2, e3⟩ := Option.bind_eq_some_iff.mp e1
  split at e3
  · rename_i h
    cases e3
    exact ⟨x, p, rfl, by rw [g.K]; exact rPy_ok w e2 ra, h, give_val w .ofStr q⟩
  · cases e3
end Tp
end
section
set_option Elab.async false
set_option linter.all false
set_option maxRecDepth 100000
set_option maxHeartbeats 2000000
/-! TpW: the end: a law's call answers True. -/
namespace Tp
open PySem PySem.Spec PyProof.Rows L2

/-- the script is tracked, unless it is one of the module's own objects -/
def scH (K : PySem.W.Frag) (a : Addr) (o : Obj) (vs : List V) : Hp := fun b => if b = a ∧ K.lookup b = none then some (.frz o (.lst vs)) else none
theorem scH_some {K : PySem.W.Frag} {a b : Addr} {o : Obj} {vs : List V} {u : HO} (h : scH K a o vs b = some u) : b = a ∧ K.lookup b = none ∧ u = .frz o (.lst vs) := by
  unfold scH at h
  split at h
  · rename_i q; exact ⟨q.1, q.2, (Option.some.inj h).symm⟩
  · cases h
theorem scH_none {K : PySem.W.Frag} {a b : Addr} {o : Obj} {vs : List V} (h : scH K a o vs b ≠ none) : b = a ∧ K.lookup b = none := by
  cases e : scH K a o vs b with
  | none => exact absurd e h
  | some u => exact ⟨(scH_some e).1, (scH_some e).2.1⟩
/-- a def of one parameter, called with the script -/
theorem run_script {Γ : Gam} {mb : Str → Option Value} {k : Nat} {fa a : Addr} {fd : FuncData} {x : Str} {ev : FEv} {s : Shared} {us : List Value} {ns : List Int}
    (KI : Γ.K.In s.heap) (n1 : s.heap.Ns mainGlobals Γ.mg) (n2 : s.heap.Ns builtinsNs mb) (bb : ∀ x : Str, x ≠ "__name__" → mb x = bootBuiltins x) (lim : s.heap.NoLimit) (gens : s.gens = #[])
    (ha : s.heap.get? a = some { cls := .type "list", data := .seq us.toArray }) (hi : IntsAre us ns) (hl : ns.length ≤ sizeLine) (room : Room k callerA)
    (hb : Γ.base = hidT s.heap (scH Γ.K a { cls := .type "list", data := .seq us.toArray } (ns.map V.int)))
    (F : FnG Γ k fa fd [x] (spD Γ 1 ev)) (bind : ∀ u : Value, BindsTo s fd ⟨[u], []⟩ [(x, u)]) {T' : Cs} (e : ev [.fz (ns.map D.int)] [] = .ok (.sh (.bl true)) T') :
    codeAny (model Γ.P Γ.w) callerA (.call (.ref fa) ⟨[.ref a], []⟩) (fun r s' => r = .ok (.ret (.bool true)) ∧ OldK s.heap s'.heap ∧ s'.os = s.os ∧ AllBare s'.gens) s := by
  generalize hH : scH Γ.K a { cls := .type "list", data := .seq us.toArray } (ns.map V.int) = H at hb
  have hs : ∀ {b : Addr} {u : HO}, H b = some u → b = a ∧ Γ.K.lookup b = none ∧ u = .frz { cls := .type "list", data := .seq us.toArray } (.lst (ns.map V.int)) := fun {b u} h => by
    rw [← hH] at h; exact scH_some h
  have rv := vals_ints hi
  have stay : ∀ {b : Addr} {o : Obj}, s.heap.get? b = some o → H b = none → (hidT s.heap H).get? b = some o := fun e n => hidT_get e n
  have notDict : ∀ {b : Addr} {o : Obj} {es : Array DictEntry} {n : Nat}, s.heap.get? b = some o → o.data = .dict es n → H b = none := fun {b o es n} h1 h2 => by
    cases q : H b with
    | none => rfl
    | some u =>
      obtain ⟨rfl, _, _⟩ := hs q
      rw [ha] at h1; cases h1; cases h2
  have nsI : ∀ {b : Addr} {m : Str → Option Value}, s.heap.Ns b m → (hidT s.heap H).Ns b m := fun ⟨o, es, n, h1, h2, h3⟩ => ⟨o, es, n, stay h1 (notDict h1 h2), h2, h3⟩
  have kI : Γ.K.In (hidT s.heap H) := fun b o h => stay (KI b o h) (by
    cases q : H b with
    | none => rfl
    | some u => rw [(hs q).2.1] at h; cases h)
  have okH : HOk Γ.P Γ.w H s.heap := fun b u q => by
    obtain ⟨rfl, _, rfl⟩ := hs q
    exact ⟨ha, by rw [List.length_map]; exact hl, us, _, rv, ha⟩
  have sq : SqL Γ.K H a (ns.map V.int) := by
    cases q : Γ.K.lookup a with
    | none => exact .inl (.inr ⟨_, by rw [← hH]; exact if_pos ⟨rfl, q⟩⟩)
    | some o =>
      have h1 := KI a o q
      rw [ha] at h1; cases h1
      exact .inr ⟨_, us.toArray, _, q, rfl, rfl, rfl, by rw [List.size_toArray, hi.length]; exact hl, by simpa using rv⟩
  have w : Wf Γ H ⟨H, [], none⟩ [] := ⟨fun _ _ h => h, List.nodup_nil, fun _ h => (by cases h), rfl, fun n a ds h => by simp at h⟩
  have e0 : Env0 Γ.P Γ.w Γ.K Γ.mg Γ.base callerA [] s H := by
    rw [hb]
    exact ⟨rfl, ⟨kI, nsI n1, ⟨mb, nsI n2, bb⟩, let ⟨mc, h1, h2⟩ := lim; ⟨mc, nsI h1, h2⟩⟩, fun b o h => of_hidT h, Nat.le_of_eq (hidT_size _ _), trivial, fun b h => (by cases h), okH, .of_eq gens⟩
  refine codeAny_mono (F.run callerA [] s H ⟨[.ref a], []⟩ [.ref a] [.ref a] (fun v _ => v = .bl true) (fun _ _ _ => False) rfl room e0 (bind (.ref a)) (.cons rfl .nil) ⟨⟨H, [], none⟩, [], [.fz (ns.map D.int)], w, Reps.cons (by simp only [Rep]; exact ⟨a, _, rfl, sq, Reps.ofInts⟩) Reps.nil, rfl, ?_⟩) fun r s' h => ?_
  · rw [e]
    intro v H' I' as _ _ q _
    exact q.2.bl
  · match r, h with
    | .ok (.ret u), h =>
      obtain ⟨v, H', os, bare, un, ok', rel, q⟩ := h
      have q : v = .bl true := q
      subst q
      obtain rfl : u = Value.bool true := rel
      refine ⟨rfl, OldK.of_keep fun b o h1 => ?_, os, bare⟩
      cases z : H b with
      | none => exact un.keep b o h1 z (fun h => by cases h) (fun h => by cases h)
      | some u =>
        obtain ⟨rfl, _, rfl⟩ := hs z
        rw [ha] at h1; cases h1
        exact (ok' b _ (un.frzs b _ _ z)).1
    | .ok .next, h => exact h.elim
    | .ok .brk, h => exact h.elim
    | .ok .cont, h => exact h.elim
    | .error e, h => exact let ⟨_, _, _, _, _, _, _, _, _, _, _, _, z⟩ := h; z.elim
/-- a law, by its def's evaluator -/
theorem law_end {l : PySem.W.OpenLaw} {n k : Nat} {q : Program} {loose : List Str} {XP : (Str → Option Value) → Heap → Prop} {YP : World → Heap → Prop} {d : DefRec} {x : Str} {s : DefSig} {ev : FEv}
    (hn : l.most = some n) (hn2 : n ≤ sizeLine) (hdf : d.params.defaults = []) (hr : Room k callerA) (hlv : s.lv = k) (hps : s.ps = [x]) (B : BindOk s 1 [] [.a 0]) (hd0 : s.dfl = [])
    (F : ∀ (w : World) (mg : Str → Option Value) (fa : Addr) (h : Heap), YP w h → h.Ns mainGlobals mg → mg d.name = some (.ref fa) → ∃ K : PySem.W.Frag, K.In h ∧ ∀ base : Heap, FnIs ⟨l.prog, w, K, mg, base, cdT, fun _ => []⟩ s ev fa)
    (law : ∀ ns : List Int, ns.length ≤ n → ∃ T', ev [.fz (ns.map D.int)] [] = .ok (.sh (.bl true)) T') :
    PySem.W.WalkO q loose XP YP l.row.toRowW d [] (fun f vs => PySem.call f vs) := by
  refine Att.attach_call hn hdf fun w s₀ s₁ mg mb fa o pm cd doc a vs ns G Y ho hd hcd hmg hobj hints hlen hg => ?_
  obtain ⟨K, KX, hF⟩ := F w mg fa _ Y G.T.g hmg
  obtain ⟨T', e⟩ := law ns hlen
  obtain ⟨fd, FD, FG⟩ := (hF (hidT s₁.heap (scH K a { cls := .type "list", data := .seq vs.toArray } (ns.map V.int)))).fn
  rw [hlv, hps] at FG
  refine run_script (Γ := ⟨l.prog, w, K, mg, _, cdT, fun _ => []⟩) KX G.T.g G.T.b G.T.builtins G.T.nolimit hg hobj hints (Nat.le_trans hlen hn2) hr rfl FG (fun u => ?_) e
  obtain ⟨its, h1, h2⟩ := bind_of (Γ := ⟨l.prog, w, K, mg, hidT s₁.heap (scH K a { cls := .type "list", data := .seq vs.toArray } (ns.map V.int)), cdT, fun _ => []⟩) B FD (sh := s₁) KX (us := [u]) (ws := []) rfl rfl
  rw [hps] at h2
  exact h2
end Tp
end
section
set_option Elab.async false
set_option linter.all false
set_option maxRecDepth 100000
set_option maxHeartbeats 2000000
/-! TpX: the head's facts, as the terms want them. -/
namespace Tp
open PySem PySem.Spec PyProof.Rows L2

/-! ### Bool facts of the written part -/
def tyK (K : PySem.W.Frag) : Ty → Value
  | .b n => .type n
  | .o c => .ref (He.ga K (cdT c).1)
def optB (a b : Option Bool) : Bool := decide (a = b)
def clsB (K : PySem.W.Frag) (c : Nat) : Bool :=
  He.eqO (PySem.W.findIn K (.ref (He.ga K (cdT c).1)) "__class__") (some (some (.builtin "object.__class__"))) && (He.eqO (PySem.W.specialIn K (.builtin "object.__class__") "__get__") (some (some (.builtin "getset_descriptor.__get__"))) &&
    (optB (PySem.W.takesIn K (.builtin "object.__class__")) (some true) && (optB (PySem.W.mroIn K (He.ga K (cdT c).1) (.type "object")) (some true) &&
      (cdT c).2.all fun f => He.eqO (PySem.W.findIn K (.ref (He.ga K (cdT c).1)) f) (some none))))
def isiB (K : PySem.W.Frag) (own : List Nat) (u : Ty) : Bool := (tys own).all fun t => optB (PySem.W.kitOne K (tyK K t) (tyK K u)) (some (isTy t u))
theorem tyK_eq (Γ : Gam) (t : Ty) : tyK Γ.K t = tyU Γ t := by cases t <;> rfl
/-- what the head tells -/
structure Hd (Γ : Gam) (fa : List He.Fa) (fn : List He.DefD) (ex : PySem.W.Frag → Bool) : Prop where
  cd : Γ.cd = cdT
  facts : ∀ {f : He.Fa}, f ∈ fa → f.ok Γ.K = true
  defs : ∀ {d : He.DefD}, d ∈ fn → ∃ fd, FunD Γ.K d.name d.qual d.params d.body d.scope (d.dvs Γ.K) (d.kws Γ.K) (He.fAd Γ.K d.at_) fd
  more : ex Γ.K = true
  at_ : ∃ h : Heap, Γ.K.In h ∧ h.Ns mainGlobals Γ.mg
section
variable {Γ : Gam} {fa : List He.Fa} {fn : List He.DefD} {ex : PySem.W.Frag → Bool}
theorem Hd.fact (S : Hd Γ fa fn ex) (i : Nat) {f : He.Fa} (h : fa[i]? = some f) : f.ok Γ.K = true := S.facts (List.mem_of_getElem? h)
theorem Hd.glo (S : Hd Γ fa fn ex) (i : Nat) (x : Str) (h : fa[i]? = some (.glo x)) : Γ.mg x = some (.ref (He.ga Γ.K x)) := let ⟨_, a, b⟩ := S.at_; He.glo_ok a b (S.fact i h)
theorem Hd.free (S : Hd Γ fa fn ex) (i : Nat) (x : Str) (h : fa[i]? = some (.free x)) : Γ.mg x = none := let ⟨_, a, b⟩ := S.at_; He.free_ok a b (S.fact i h)
theorem Hd.int (S : Hd Γ fa fn ex) (i : Nat) (x : Str) (z : Int) (h : fa[i]? = some (.int x z)) : ∃ t, Γ.mg x = some (.int z t) := let ⟨_, a, b⟩ := S.at_; He.int_ok a b (S.fact i h)
theorem Hd.str (S : Hd Γ fa fn ex) (i : Nat) (x z : Str) (h : fa[i]? = some (.str x z)) : ∃ t, Γ.mg x = some (.str z t) := let ⟨_, a, b⟩ := S.at_; He.str_ok a b (S.fact i h)
theorem Hd.cls (S : Hd Γ fa fn ex) (i j c : Nat) (h : fa[i]? = some (.glo (cdT c).1)) (h2 : fa[j]? = some (.cls (cdT c).1)) (e : clsB Γ.K c = true) : ClsFull Γ c := by
  obtain ⟨e1, e⟩ := b2 e
  obtain ⟨e2, e⟩ := b2 e
  obtain ⟨e3, e⟩ := b2 e
  obtain ⟨e4, e5⟩ := b2 e
  exact ⟨S.cd, S.glo i _ h, He.cls_ok (S.fact j h2), He.eqO_ok e1, He.eqO_ok e2, of_decide_eq_true e3, of_decide_eq_true e4, fun f hf => He.eqO_ok (List.all_eq_true.mp e5 f hf)⟩
theorem isi_of {own : List Nat} {u : Ty} (e : isiB Γ.K own u = true) : isiNeed Γ own u := fun t ht => by
  have := of_decide_eq_true (List.all_eq_true.mp e t ht)
  rwa [tyK_eq, tyK_eq] at this
def dvOf : D → He.Dv
  | .bl b => .bl b
  | .int i => .int i
  | .str s => .str s
  | _ => .non
theorem dvOf_v (K : PySem.W.Frag) : ∀ ds : List D, (ds.map dvOf).map (He.Dv.v K) = ds.map constV
  | [] => rfl
  | d :: ds => by
    rw [List.map_cons, List.map_cons, List.map_cons, dvOf_v K ds]
    cases d <;> rfl
theorem Hd.tup (S : Hd Γ fa fn ex) (i : Nat) (x : Str) (ds : List D) (h : fa[i]? = some (.glo x)) (e : He.tupB Γ.K x (ds.map dvOf) = true) : ∃ a, Γ.mg x = some (.ref a) ∧ ∀ H, SqT Γ.K H a (ds.map constV) :=
  ⟨_, S.glo i x h, fun H => by rw [← dvOf_v Γ.K ds]; exact He.tupB_ok e H⟩
/-- a def of the top, a method -/
theorem Hd.fnAt (S : Hd Γ fa fn ex) (i : Nat) {d : He.DefD} (s : DefSig) (h : fn[i]? = some d) (e1 : d.name = s.nm) (e2 : d.qual = s.qual) (e3 : d.params = s.params) (e4 : d.body = s.body) (e5 : d.scope = s.scope) (e6 : d.dfl = s.dfl.map dvOf) (e7 : d.kwd = []) :
    ∃ fd, FunD Γ.K s.nm s.qual s.params s.body s.scope (s.dfl.map constV) [] (He.fAd Γ.K d.at_) fd := by
  obtain ⟨fd, F⟩ := S.defs (List.mem_of_getElem? h)
  have e8 : d.dvs Γ.K = s.dfl.map constV := by unfold He.DefD.dvs; rw [e6, dvOf_v]
  have e9 : d.kws Γ.K = [] := by unfold He.DefD.kws; rw [e7]; rfl
  rw [e1, e2, e3, e4, e5, e8, e9] at F
  exact ⟨fd, F⟩
theorem Hd.of {w : World} {h : Heap} {K : PySem.W.Frag} {P : Program} {mg : Str → Option Value} {base : Heap} (c : He.SaysX fa fn [] [] ex w h K) (KI : K.In h) (n : h.Ns mainGlobals mg) : Hd ⟨P, w, K, mg, base, cdT, fun _ => []⟩ fa fn ex :=
  ⟨rfl, fun hf => c.t.d.facts hf, fun hd => c.t.d.defs hd, c.more, ⟨h, KI, n⟩⟩
end
end Tp
end
section
set_option Elab.async false
set_option linter.all false
set_option maxRecDepth 100000
set_option maxHeartbeats 2000000
/-! TpY: the head's facts, properties too. -/
namespace Tp
open PySem PySem.Spec PyProof.Rows L2

/-- the function behind the property m of the class C -/
def gAd (K : PySem.W.Frag) (C m : Str) : Addr := match PySem.W.recIn K (He.ma K (He.ga K C) m) "property" with
  | some (.ref g :: _) => g
  | _ => 0
/-- what stands at an address, if it is a function -/
def fnA (K : PySem.W.Frag) (a : Addr) : He.FnW := match K.lookup a with
  | some ⟨_, _, .func u, _⟩ => some (u.name, u.qualname, u.params, u.body, u.scope, u.globals, u.closure, u.builtins)
  | _ => none
def okA (K : PySem.W.Frag) (a : Addr) (d : He.DefD) : Bool := PySem.W.keepIn K (.ref a) && match K.lookup a with
  | some ⟨_, _, .func u, _⟩ => PySem.W.codeIn K u.code d.qual && (He.dflB K u.defaults (d.dvs K) && He.kwdB K u.kwdefaults (d.kws K))
  | _ => false
theorem funA {K : PySem.W.Frag} {a : Addr} {d : He.DefD} (e : fnA K a = d.val) (c : okA K a d = true) : ∃ u, FunD K d.name d.qual d.params d.body d.scope (d.dvs K) (d.kws K) a u := by
  obtain ⟨kp, c⟩ := b2 c
  unfold fnA at e
  split at e
  · rename_i oc od u osl q
    rw [q] at c
    obtain ⟨c1, c⟩ := b2 c
    obtain ⟨c2, c3⟩ := b2 c
    cases u
    simp only [He.DefD.val, Option.some.injEq, Prod.mk.injEq] at e
    obtain ⟨h1, h2, h3, h4, h5, h6, h7, h8⟩ := e
    subst h1 h2 h3 h4 h5 h6 h7 h8
    exact ⟨_, ⟨oc, od, _, _, _, _, _, _, _, osl, rfl, q, c1, He.dflB_ok c2, He.kwdB_ok c3⟩, kp⟩
  · cases e
/-- the property m of the class C -/
def propB (K : PySem.W.Frag) (C m : Str) : Bool :=
  He.eqO (PySem.W.findIn K (.ref (He.ga K C)) m) (some (some (.ref (He.ma K (He.ga K C) m)))) && (He.eqO (PySem.W.specialIn K (.ref (He.ma K (He.ga K C) m)) "__get__") (some (some (.builtin "property.__get__"))) &&
    (optB (PySem.W.takesIn K (.ref (He.ma K (He.ga K C) m))) (some true) && match PySem.W.recIn K (He.ma K (He.ga K C) m) "property" with
      | some (.ref _ :: _) => true
      | _ => false))
theorem propB_ok {K : PySem.W.Frag} {C m : Str} (h : propB K C m = true) : PropOf K (He.ga K C) m (He.ma K (He.ga K C) m) (gAd K C m) := by
  obtain ⟨h1, h⟩ := b2 h
  obtain ⟨h2, h⟩ := b2 h
  obtain ⟨h3, h4⟩ := b2 h
  refine ⟨He.eqO_ok h1, He.eqO_ok h2, of_decide_eq_true h3, ?_⟩
  unfold gAd
  split at h4
  · rename_i g rest q
    exact ⟨rest, by rw [q]⟩
  · cases h4
/-- a getter: its class and name stand in at_ -/
def gOf (K : PySem.W.Frag) (d : He.DefD) : Addr := gAd K d.at_.1 (d.at_.2.getD Str.empty)
abbrev AlP : Type := He.AlX × (Bool × List He.FnW)
def obsP (n : Nat) (fa : List He.Fa) (fn gs : List He.DefD) (ex : PySem.W.Frag → Bool) (g : Addr → Option Obj) : AlP :=
  (He.obsX n fa fn [] [] ex g, (gs.all fun d => okA (He.frT g (He.asD g n)) (gOf (He.frT g (He.asD g n)) d) d), gs.map fun d => fnA (He.frT g (He.asD g n)) (gOf (He.frT g (He.asD g n)) d))
structure SaysP (fa : List He.Fa) (fn gs : List He.DefD) (ex : PySem.W.Frag → Bool) (w : World) (h : Heap) (K : PySem.W.Frag) : Prop where
  x : He.SaysX fa fn [] [] ex w h K
  g : ∀ d, d ∈ gs → ∃ u, FunD K d.name d.qual d.params d.body d.scope (d.dvs K) (d.kws K) (gOf K d) u
theorem saysP_of {n : Nat} {fa : List He.Fa} {fn gs : List He.DefD} {ex : PySem.W.Frag → Bool} {w : World} {h : Heap} (e : obsP n fa fn gs ex h.get? = (He.valX fn [] w, true, gs.map He.DefD.val)) : SaysP fa fn gs ex w h (He.frT h.get? (He.asD h.get? n)) := by
  unfold obsP at e
  obtain ⟨e1, e2⟩ := Prod.mk.inj e
  obtain ⟨e3, e4⟩ := Prod.mk.inj e2
  refine ⟨He.saysX_of e1, fun d hd => ?_⟩
  obtain ⟨i, hi, rfl⟩ := List.mem_iff_getElem.mp hd
  have e5 : (gs.map fun d => fnA (He.frT h.get? (He.asD h.get? n)) (gOf (He.frT h.get? (He.asD h.get? n)) d))[i]? = (gs.map He.DefD.val)[i]? := by rw [e4]
  rw [List.getElem?_map, List.getElem?_map, List.getElem?_eq_getElem hi] at e5
  exact funA (Option.some.inj e5) (List.all_eq_true.mp e3 _ hd)
def hookP (n : Nat) (fa : List He.Fa) (fn gs : List He.DefD) (ex : PySem.W.Frag → Bool) : PySem.W.Hook where
  α := AlP
  obs := fun s => obsP n fa fn gs ex s.heap.get?
  val := fun w => (He.valX fn [] w, true, gs.map He.DefD.val)
  says := fun w h => ∃ K : PySem.W.Frag, K.In h ∧ SaysP fa fn gs ex w h K
  of := fun _ _ e => ⟨_, He.frT_in, saysP_of e⟩
  keeps := fun _ _ _ ⟨K, hK, c⟩ k => ⟨K, PySem.W.Frag.In.keeps hK k, ⟨⟨c.x.t, c.x.more, c.x.hd, c.x.out, fun p hp => k _ _ (c.x.empty p hp)⟩, c.g⟩⟩
theorem obsP_eq {n : Nat} {fa : List He.Fa} {fn gs : List He.DefD} {ex : PySem.W.Frag → Bool} {g : Addr → Option Obj} {s : Shared} (h : ∀ a, g a = s.heap.get? a) : obsP n fa fn gs ex g = (hookP n fa fn gs ex).obs s := by
  rw [show g = s.heap.get? from funext h]; rfl
/-- what the head tells, getters too -/
structure Hdp (Γ : Gam) (fa : List He.Fa) (fn gs : List He.DefD) (ex : PySem.W.Frag → Bool) : Prop where
  hd : Hd Γ fa fn ex
  gt : ∀ {d : He.DefD}, d ∈ gs → ∃ u, FunD Γ.K d.name d.qual d.params d.body d.scope (d.dvs Γ.K) (d.kws Γ.K) (gOf Γ.K d) u
theorem Hdp.of {fa : List He.Fa} {fn gs : List He.DefD} {ex : PySem.W.Frag → Bool} {w : World} {h : Heap} {K : PySem.W.Frag} {P : Program} {mg : Str → Option Value} {base : Heap} (c : SaysP fa fn gs ex w h K) (KI : K.In h) (n : h.Ns mainGlobals mg) : Hdp ⟨P, w, K, mg, base, cdT, fun _ => []⟩ fa fn gs ex :=
  ⟨Hd.of c.x KI n, fun hd => c.g _ hd⟩
section
variable {Γ : Gam} {fa : List He.Fa} {fn gs : List He.DefD} {ex : PySem.W.Frag → Bool}
theorem Hdp.getAt (S : Hdp Γ fa fn gs ex) (i : Nat) {d : He.DefD} (s : DefSig) (h : gs[i]? = some d) (e1 : d.name = s.nm) (e2 : d.qual = s.qual) (e3 : d.params = s.params) (e4 : d.body = s.body) (e5 : d.scope = s.scope) (e6 : d.dfl = s.dfl.map dvOf) (e7 : d.kwd = []) :
    ∃ u, FunD Γ.K s.nm s.qual s.params s.body s.scope (s.dfl.map constV) [] (gOf Γ.K d) u := by
  obtain ⟨u, F⟩ := S.gt (List.mem_of_getElem? h)
  have e8 : d.dvs Γ.K = s.dfl.map constV := by unfold He.DefD.dvs; rw [e6, dvOf_v]
  have e9 : d.kws Γ.K = [] := by unfold He.DefD.kws; rw [e7]; rfl
  rw [e1, e2, e3, e4, e5, e8, e9] at F
  exact ⟨u, F⟩
end
end Tp
end
section
set_option Elab.async false
set_option linter.all false
set_option maxRecDepth 100000
set_option maxHeartbeats 2000000
/-! TpZ: list(range(..)). -/
namespace Tp
open PySem PySem.Spec PyProof.Rows L2

theorem reps_rg {Γ : Gam} {I : Im} : ∀ (n : Nat) (a : Int), Reps Γ I (rangeD a 1 n) ((List.range n).map fun i => V.int (a + (i : Nat)))
  | 0, a => Reps.nil
  | n + 1, a => by
    have e : ((List.range (n + 1)).map fun i => V.int (a + (i : Nat))) = V.int a :: (List.range n).map fun i => V.int (a + 1 + (i : Nat)) := by
      rw [List.range_succ_eq_map, List.map_cons, List.map_map]
      congr 1
      · congr 1; simp
      · apply List.map_congr_left
        intro i _
        show V.int (a + ((i + 1 : Nat) : Int)) = V.int (a + 1 + (i : Nat))
        congr 1; omega
    rw [e]
    exact Reps.cons .ofInt (reps_rg n (a + 1))
def lrg (i j : Int) : Option R := if -1000000 ≤ i ∧ i ≤ 1000000 ∧ -1000000 ≤ j ∧ j ≤ 1000000 then some (rL (rangeD i 1 (j - i).toNat)) else none
theorem lrg_ok {i j : Int} {c : R} (h : lrg i j = some c) : RgOk i j ∧ c = rL (rangeD i 1 (j - i).toNat) := by
  unfold lrg at h
  split at h
  · rename_i q
    cases h
    refine ⟨⟨by omega, by omega, by omega, by omega, by have : (2:Nat)^24 = 16777216 := by decide
                                                        omega⟩, rfl⟩
  · cases h
def lrg1 (r : R) : Option R := match r with
  | .v (.sh (.int j)) => lrg 0 j
  | _ => none
def lrg2 (r r2 : R) : Option R := match r, r2 with
  | .v (.sh (.int i)), .v (.sh (.int j)) => lrg i j
  | _, _ => none
theorem lrg1_ok {r c : R} (h : lrg1 r = some c) : ∃ j, r = rI j ∧ lrg 0 j = some c := by
  unfold lrg1 at h
  split at h
  · rename_i j; exact ⟨j, rfl, h⟩
  · cases h
theorem lrg2_ok {r r2 c : R} (h : lrg2 r r2 = some c) : ∃ i j, r = rI i ∧ r2 = rI j ∧ lrg i j = some c := by
  unfold lrg2 at h
  split at h
  · rename_i i j; exact ⟨i, j, rfl, rfl, h⟩
  · cases h
/-- list(range(a)) -/
def cLRg1 (a : CE) : CE where
  ev := fun ρ T => (a.ev ρ T).bind fun x T1 => Ev.opt (lrg1 x) T1
  chk := fun k sc e => match e with
    | .Call (.Name f _) [.Call (.Name r _) [y] [] _] [] _ => decide (f = ("list" : Str)) && (decide (r = ("range" : Str)) && (isGl sc.nm f && (isGl sc.nm r && (notStar y && a.chk k sc y))))
    | _ => false
  need := fun Γ => Γ.mg "list" = none ∧ Γ.mg "range" = none ∧ a.need Γ
  z := a.z
  ok := by
    intro Γ k W sc X e n g nd h hz
    split at h
    · rename_i f fp r rp y pos1 pos
      obtain ⟨h1, h⟩ := b2 h
      obtain ⟨h2, h⟩ := b2 h
      obtain ⟨h3, h⟩ := b2 h
      obtain ⟨h4, h⟩ := b2 h
      obtain ⟨h5, h6⟩ := b2 h
      have e1 := of_decide_eq_true h1
      have e2 := of_decide_eq_true h2
      subst e1
      subst e2
      refine PE.mono (pe_listRg g.calm (isGl_ok g.nm h3) (by rw [g.mg]; exact nd.1) (prg_1 (isGl_ok g.nm h4) (by rw [g.mg]; exact nd.2.1) (a.ok g nd.2.2 h6 hz) (star_cons h5))) fun σ H Q q => ?_
      obtain ⟨I, ρ, T, own, w, er, p⟩ := q
      refine ⟨I, ρ, T, own, w, er, (Post.bind (rel := RepR Γ n own) backR p).imp fun x H1 q1 => ?_⟩
      obtain ⟨r, T1, I1, _, x1, w1, r1, p1⟩ := q1
      obtain ⟨c, e3, k3⟩ := Post.opt p1
      obtain ⟨j, rfl, e4⟩ := lrg1_ok e3
      obtain ⟨o, rfl⟩ := lrg_ok e4
      exact ⟨j, r1.unsh.int, o, give_list w1 (reps_rg _ _) k3⟩
    · cases h
/-- list(range(a, b)) -/
def cLRg2 (a b : CE) : CE where
  ev := fun ρ T => (a.ev ρ T).bind fun x T1 => (b.ev ρ T1).bind fun y T2 => Ev.opt (lrg2 x y) T2
  chk := fun k sc e => match e with
    | .Call (.Name f _) [.Call (.Name r _) [y, y2] [] _] [] _ => decide (f = ("list" : Str)) && (decide (r = ("range" : Str)) && (isGl sc.nm f && (isGl sc.nm r && ((notStar y && notStar y2) && (a.chk k sc y && b.chk k sc y2)))))
    | _ => false
  need := fun Γ => Γ.mg "list" = none ∧ Γ.mg "range" = none ∧ a.need Γ ∧ b.need Γ
  z := a.z || b.z
  ok := by
    intro Γ k W sc X e n g nd h hz
    split at h
    · rename_i f fp r rp y y2 pos1 pos
      obtain ⟨h1, h⟩ := b2 h
      obtain ⟨h2, h⟩ := b2 h
      obtain ⟨h3, h⟩ := b2 h
      obtain ⟨h4, h⟩ := b2 h
      obtain ⟨h5, h6⟩ := b2 h
      obtain ⟨h5, h5b⟩ := b2 h5
      obtain ⟨h6, h7⟩ := b2 h6
      have e1 := of_decide_eq_true h1
      have e2 := of_decide_eq_true h2
      subst e1
      subst e2
      refine PE.mono (pe_listRg g.calm (isGl_ok g.nm h3) (by rw [g.mg]; exact nd.1) (prg_2 (isGl_ok g.nm h4) (by rw [g.mg]; exact nd.2.1) (a.ok g nd.2.2.1 h6 (or1 hz).1) (b.ok g nd.2.2.2 h7 (or1 hz).2) (star_cons h5) (star_cons h5b) (by rw [star_cons h5b]; rfl))) fun σ H Q q => ?_
      obtain ⟨I, ρ, T, own, w, er, p⟩ := q
      refine ⟨I, ρ, T, own, w, er, (Post.bind (rel := RepR Γ n own) backR p).imp fun x H1 q1 => ?_⟩
      obtain ⟨r, T1, I1, _, x1, w1, r1, p1⟩ := q1
      refine ⟨I1, ρ, T1, own, w1, er.ext x1, (Post.bind (rel := RepR Γ n own) backR p1).imp fun y H2 q2 => ?_⟩
      obtain ⟨r2, T2, I2, _, x2, w2, r2', p2⟩ := q2
      obtain ⟨c, e3, k3⟩ := Post.opt p2
      obtain ⟨i, j, rfl, rfl, e4⟩ := lrg2_ok e3
      obtain ⟨o, rfl⟩ := lrg_ok e4
      exact ⟨i, j, r1.unsh.int, r2'.unsh.int, o, give_list w2 (reps_rg _ _) k3⟩
    · cases h
end Tp
end
section
set_option Elab.async false
set_option linter.all false
set_option maxRecDepth 100000
set_option maxHeartbeats 2000000
/-! TqA: x.pop(); a local's own list lent to an expression. -/
namespace Tp
open PySem PySem.Spec PyProof.Rows L2

/-- x.pop() -/
def sPop (i : Nat) : C1 where
  ev := fun ρ T => match ρ[i]? with
    | some (some (.ow xs)) => if xs.length = 0 then .no else .ok (.nx (ρ.set i (some (.ow xs.dropLast)))) T
    | _ => .no
  chk := fun _ sc st => match st with
    | .Expr (.Call (.Attribute (.Name x _) m ap) [] [] cp) _ => decide (m = ("pop" : Str)) && ((ap.endLine == cp.line) && isVar sc i x)
    | _ => false
  need := fun _ => True
  ok := by
    intro Γ k W sc X st g nd h
    split at h
    · obtain ⟨h1, h⟩ := b2 h
      obtain ⟨hl, h2⟩ := b2 h
      have hm := of_decide_eq_true h1
      subst hm
      refine PS.mono (ps_expr (pe_bm0 PySem.F.plainAttrs_list PySem.F.slot_list_pop PySem.F.type_list_pop mt_pop (isVar_ok g h2) (by rfl) hl) rfl) fun D σ H q => ?_
      obtain ⟨I, ρ, T, own, w, er, p⟩ := q
      have p' : PostS Γ X.s_0.heap.objs.size W D (Ow own) H I (match ρ[i]? with
        | some (some (.ow xs)) => if xs.length = 0 then .no else .ok (.nx (ρ.set i (some (.ow xs.dropLast)))) T
        | _ => .no) := p
      split at p'
      · rename_i xs e1
        obtain ⟨b, vs, o1, o2, o3, o4⟩ := own_list er e1
        split at p'
        · exact p'.elim
        · rename_i hl
          refine ⟨_, o2, .inl ⟨rfl, _, SqL.of o3⟩, ?_⟩
          have hv : vs.length - 1 < vs.length := by
            have := o4.length
            omega
          refine ⟨b, vs, vs[vs.length - 1], rfl, rfl, o3, by simp [hv], ?_⟩
          exact p' σ _ I own (write_aft er Ext.refl w e1 o1 o2 ⟨b, _, rfl, rfl, upd_same, o4.dropLast⟩)
      · exact p'.elim
    · cases h

/-! ### lent -/
/-- what may be answered where a list was lent -/
def okBor : R → Bool
  | .v (.sh d) => flatD d
  | .v (.ow xs) => xs.all flatD
  | _ => false
def flatCs (T : Cs) : Bool := T.all fun ds => ds.all flatD
def borE (i : Nat) (ρ : Env) : Option Env := match ρ[i]? with
  | some (some lv) => (match frzLV lv with
    | some lv' => some (ρ.set i (some lv'))
    | none => none)
  | _ => none
def borK {α : Type} (okb : α → Bool) (n : Nat) : Ev α → Ev α
  | .ok r T1 => if okb r && flatCs (T1.take n) then .ok r (T1.take n) else .no
  | _ => .no
def evBor {α : Type} (i : Nat) (okb : α → Bool) (ev : Env → Cs → Ev α) : Env → Cs → Ev α := fun ρ T => match borE i ρ with
  | some ρ' => borK okb T.length (ev ρ' T)
  | none => .no
section
variable {Γ : Gam} {n : Nat} {W : WX}
theorem Rep.flat0 {I I' : Im} {d : D} {v : V} (h : Rep Γ I d v) (f : flatD d = true) : Rep Γ I' d v := by
  cases d with
  | non => rw [h.non]; exact .ofNon
  | bl b => rw [h.bl]; exact .ofBl
  | int b => rw [h.int]; exact .ofInt
  | str b => rw [h.str]; exact .ofStr
  | _ => cases f
theorem Reps.flat0 {I I' : Im} : ∀ {ds : List D} {vs : List V}, Reps Γ I ds vs → ds.all flatD = true → Reps Γ I' ds vs
  | [], _, h, _ => by simp only [Reps] at h; subst h; exact Reps.nil
  | d :: ds, _, h, f => by
    simp only [Reps] at h
    obtain ⟨v, r, rfl, h2, h3⟩ := h
    rw [List.all_cons] at f
    obtain ⟨f1, f2⟩ := b2 f
    exact Reps.cons (h2.flat0 f1) (Reps.flat0 h3 f2)
/-- back to what was known ahead of the lending -/
theorem bor_back {H H1 : Hp} {I I' I1 : Im} {T T1 : Cs} (w : Wf Γ H I T) (w' : Wf Γ H I' T) (gg : ∀ a o, I.G a = some o → I'.G a = some o) (kk : ∀ (m : Nat) a, I.κ[m]? = some a → I'.κ[m]? = some a)
    (kn : ∀ a, a ∈ I'.κ → a ∈ I.κ ∨ H a = none) (x : Ext O0 H I' H1 I1) (w1 : Wf Γ H1 I1 T1) (hf : flatCs (T1.take T.length) = true) : Ext O0 H I H1 I ∧ Wf Γ H1 I (T1.take T.length) := by
  have hk2 : ∀ (m : Nat) a, I.κ[m]? = some a → I1.κ[m]? = some a := fun m a h => x.kk m a (kk m a h)
  have hlen : T.length ≤ T1.length := by
    rw [← w.len, ← w1.len]
    by_cases h0 : I.κ.length = 0
    · omega
    · have hm : I.κ.length - 1 < I.κ.length := by omega
      have e : I.κ[I.κ.length - 1]? = some I.κ[I.κ.length - 1] := by simp [hm]
      have e2 := (List.getElem?_eq_some_iff.mp (hk2 _ _ e)).1
      omega
  refine ⟨⟨fun _ _ h => h, fun _ _ h => h, fun a o h nk no => x.fr a o h (fun q => (kn a q).elim nk fun z => by rw [h] at z; cases z) no, x.th, fun _ h => .inl h, fun _ h => .inl h, rfl⟩, ?_⟩
  refine ⟨fun a o h => w1.gh a o (x.gg a o (gg a o h)), w.nd, w.kg, by rw [List.length_take, w.len]; omega, fun m a ds e1 e2 => ?_⟩
  have hm : m < T.length := by rw [← w.len]; exact (List.getElem?_eq_some_iff.mp e1).1
  have e3 : T1[m]? = some ds := by rw [List.getElem?_take_of_lt hm] at e2; exact e2
  obtain ⟨vs, h1, h2⟩ := w1.cells m a ds (hk2 m a e1) e3
  have hmem : ds ∈ T1.take T.length := List.mem_of_getElem? e2
  exact ⟨vs, h1, h2.flat0 (List.all_eq_true.mp hf ds hmem)⟩
theorem bor_run {α β : Type} {rel : (Nat → List Addr) → Hp → Hp → Im → α → β → Prop} {i : Nat} {okb : α → Bool} {ev : Env → Cs → Ev α} {σ : L2.St} {H : Hp} {Q : β → Hp → Prop}
    (hrel : ∀ {own own' : Nat → List Addr} {Hs H' : Hp} {I I1 : Im} {r : α} {v : β}, (∀ a o, I.G a = some o → I1.G a = some o) → (∀ a, a ∈ I.κ → a ∈ I1.κ) → okb r = true → rel own' Hs H' I1 r v → rel own Hs H' I r v)
    {I : Im} {ρ : Env} {T : Cs} {own : Nat → List Addr} (w : Wf Γ H I T) (er : ER Γ n σ ρ H I own) (p : Post Γ (rel own) W σ H I (evBor i okb ev ρ T) Q) :
    ∃ I ρ T own, Wf Γ H I T ∧ ER Γ n σ ρ H I own ∧ Post Γ (rel own) W σ H I (ev ρ T) Q := by
  unfold evBor at p
  cases e0 : borE i ρ with
  | none => rw [e0] at p; exact p.elim
  | some ρ' =>
    rw [e0] at p
    unfold borE at e0
    split at e0
    · rename_i lv e1
      split at e0
      · rename_i lv' e2
        cases e0
        obtain ⟨I', own', af⟩ := RepL.frz w er e1 e2
        refine ⟨I', _, T, own', af.wf, af.er, ?_⟩
        have p : Post Γ (rel own) W σ H I (borK okb T.length (ev (ρ.set i (some lv')) T)) Q := p
        cases e3 : ev (ρ.set i (some lv')) T with
        | no => rw [e3] at p; exact p.elim
        | ex y T' => rw [e3] at p; exact p.elim
        | ok r T1 =>
          rw [e3] at p
          intro v H1 I1 x w1 rr
          have p' : Post Γ (rel own) W σ H I (if okb r && flatCs (T1.take T.length) then .ok r (T1.take T.length) else .no) Q := p
          split at p'
          · rename_i hc
            obtain ⟨c1, c2⟩ := b2 hc
            obtain ⟨x2, w2⟩ := bor_back w af.wf af.ext.gg af.ext.kk af.ext.kn x w1 c2
            refine p' v H1 I x2 w2 (hrel (own' := own') (I1 := I1) (fun a o h => x.gg a o (af.ext.gg a o h)) (fun a ha => ?_) c1 rr)
            obtain ⟨m, hm, e⟩ := List.getElem_of_mem ha
            have e1 : I.κ[m]? = some a := by simp [hm, e]
            exact List.mem_of_getElem? (x.kk m a (af.ext.kk m a e1))
          · exact p'.elim
      · cases e0
    · cases e0
end
/-- an expression that may look at the i-th local's own list -/
def cBor (i : Nat) (a : CE) : CE where
  ev := evBor i okBor a.ev
  chk := a.chk
  need := a.need
  z := a.z
  ok := by
    intro Γ k W sc X e n g nd h hz
    refine PE.mono (a.ok g nd h hz) fun σ H Q ⟨I, ρ, T, own, w, er, p⟩ => ?_
    refine bor_run (rel := fun own => RepR Γ n own) (fun {own own' Hs H' I I1 r v} gg kk ho q => ?_) w er p
    unfold okBor at ho
    split at ho
    · exact RepR.sh (q.unsh.flat0 ho)
    · obtain ⟨as, ⟨b, vs, rfl, h2, h3, h4⟩, h5⟩ := q
      refine ⟨[b], ⟨b, vs, rfl, h2, h3, h4.flat0 ho⟩, fun c hc => ?_⟩
      obtain ⟨g1, g2, g3, g4⟩ := h5 c hc
      refine ⟨?_, fun z => g2 (kk c z), g3, g4⟩
      cases e : I.G c with
      | none => rfl
      | some o => rw [gg c o e] at g1; cases g1
    · cases ho
def tBor (i : Nat) (a : CT) : CT where
  ev := evBor i (fun _ => true) a.ev
  chk := a.chk
  need := a.need
  z := a.z
  ok := by
    intro Γ k W sc X e n g nd h hz
    refine PT.mono (a.ok g nd h hz) fun σ H Q ⟨I, ρ, T, own, w, er, p⟩ => ?_
    exact bor_run (rel := fun _ => relB) (fun {own own' Hs H' I I1 r v} _ _ _ q => q) w er p
end Tp
end
section
set_option Elab.async false
set_option linter.all false
set_option maxRecDepth 100000
set_option maxHeartbeats 2000000
/-! TqB: a list or a tuple, walked. -/
namespace Tp
open PySem PySem.Spec PyProof.Rows L2

theorem PI.orI {X : Cx} {tg e : Expr} {t t' : TI} (h : PI X tg e t) (h' : PI X tg e t') : PI X tg e (fun σ H R => t σ H R ∨ t' σ H R) :=
  ⟨fun pins s σ H R I q => q.elim (h.run pins s σ H R I) (h'.run pins s σ H R I)⟩
def seqD : D → Option (List D)
  | .tup xs => some xs
  | d => dLst d
def iSeq (a : CE) : CI where
  ev := fun ρ T => (evD a.ev ρ T).bind fun d T1 => Ev.opt (seqD d) T1
  chk := fun k sc _ e => notSetL e && a.chk k sc e
  need := a.need
  z := a.z
  ok := by
    intro Γ k W sc X tg e n g nd h hz
    refine PI.mono (PI.orI ((iTupl a).ok (tg := tg) (n := n) g nd h hz) ((iLst a).ok (tg := tg) (n := n) g nd h hz)) fun σ H R q => ?_
    obtain ⟨I, ρ, T, own, w, er, p⟩ := q
    have p' : Post Γ (relW Γ) W σ H I ((evD a.ev ρ T).bind fun d T1 => Ev.opt (seqD d) T1) R := p
    cases e0 : evD a.ev ρ T with
    | no => rw [e0] at p'; exact p'.elim
    | ex y T1 =>
      refine .inr ⟨I, ρ, T, own, w, er, ?_⟩
      show Post Γ (relW Γ) W σ H I ((evD a.ev ρ T).bind fun d T1 => Ev.opt (dLst d) T1) R
      rw [e0] at p' ⊢
      exact p'
    | ok d T1 =>
      rw [e0] at p'
      cases d with
      | tup xs =>
        refine .inl ⟨I, ρ, T, own, w, er, ?_⟩
        show Post Γ (relW Γ) W σ H I ((evD a.ev ρ T).bind fun d T1 => Ev.opt (match d with
          | .tup xs => some xs
          | _ => none) T1) R
        rw [e0]
        exact p'
      | _ =>
        refine .inr ⟨I, ρ, T, own, w, er, ?_⟩
        show Post Γ (relW Γ) W σ H I ((evD a.ev ρ T).bind fun d T1 => Ev.opt (dLst d) T1) R
        rw [e0]
        exact p'
  fs := fun h => notSetL_ok (b2 h).1
end Tp
end
section
set_option Elab.async false
set_option linter.all false
set_option maxRecDepth 100000
set_option maxHeartbeats 2000000
/-! TqC: the head's facts over a lean part of the heap: level by level, a class by its own dict alone. -/
namespace Tp
open PySem PySem.Spec PyProof.Rows L2
def refsL (o : Obj) : List Addr := match o.data with
  | .cls cd => [cd.ns]
  | .func fd => He.refV fd.code ++ He.refV fd.defaults
  | .dict es _ => es.toList.flatMap fun e => He.refV e.val
  | .seq its _ => its.toList.flatMap He.refV
  | .fields vs => vs.toList.flatMap He.refV
  | _ => []
def lvl (g : Addr → Option Obj) : Nat → List Addr → List Addr
  | 0, as => as
  | n + 1, as => as ++ lvl g n (as.flatMap fun a => match g a with
    | some o => refsL o
    | none => [])
def asL (g : Addr → Option Obj) (n : Nat) : List Addr := lvl g n [mainGlobals]
def forceK {β : Type} : List (Addr × Obj) → (PySem.W.Frag → β) → β
  | [], k => k []
  | (a, o) :: r, k => HandSHeadRun.frNat a fun a => forceK r fun r => k ((a, o) :: r)
theorem forceK_eq {β : Type} : ∀ (l : List (Addr × Obj)) (k : PySem.W.Frag → β), forceK l k = k l
  | [], k => rfl
  | (a, o) :: r, k => by
    show HandSHeadRun.frNat a (fun a => forceK r fun r => k ((a, o) :: r)) = _
    rw [HandSHeadRun.frNat_eq, forceK_eq r]
def bodyQ (fa : List He.Fa) (fn gs : List He.DefD) (ex : PySem.W.Frag → Bool) (K : PySem.W.Frag) : AlP :=
  ((He.obsT fa fn [] K, ex K), (gs.all fun d => okA K (gOf K d) d), gs.map fun d => fnA K (gOf K d))
def obsQ (n : Nat) (fa : List He.Fa) (fn gs : List He.DefD) (ex : PySem.W.Frag → Bool) (g : Addr → Option Obj) : AlP :=
  forceK (He.frT g (asL g n)) (bodyQ fa fn gs ex)
theorem saysQ_of {n : Nat} {fa : List He.Fa} {fn gs : List He.DefD} {ex : PySem.W.Frag → Bool} {w : World} {h : Heap} (e : obsQ n fa fn gs ex h.get? = (He.valX fn [] w, true, gs.map He.DefD.val)) : SaysP fa fn gs ex w h (He.frT h.get? (asL h.get? n)) := by
  unfold obsQ at e
  rw [forceK_eq] at e
  generalize He.frT h.get? (asL h.get? n) = K at e ⊢
  unfold bodyQ at e
  obtain ⟨e1, e2⟩ := Prod.mk.inj e
  obtain ⟨e3, e4⟩ := Prod.mk.inj e2
  obtain ⟨e5, e6⟩ := Prod.mk.inj e1
  refine ⟨⟨e5, e6, (fun p hp => absurd hp List.not_mem_nil), (fun p hp => absurd hp List.not_mem_nil), (fun p hp => absurd hp List.not_mem_nil)⟩, fun d hd => ?_⟩
  obtain ⟨i, hi, rfl⟩ := List.mem_iff_getElem.mp hd
  have e5 : (gs.map fun d => fnA K (gOf K d))[i]? = (gs.map He.DefD.val)[i]? := by rw [e4]
  rw [List.getElem?_map, List.getElem?_map, List.getElem?_eq_getElem hi] at e5
  exact funA (Option.some.inj e5) (List.all_eq_true.mp e3 _ hd)
def hookQ (n : Nat) (fa : List He.Fa) (fn gs : List He.DefD) (ex : PySem.W.Frag → Bool) : PySem.W.Hook where
  α := AlP
  obs := fun s => obsQ n fa fn gs ex s.heap.get?
  val := fun w => (He.valX fn [] w, true, gs.map He.DefD.val)
  says := fun w h => ∃ K : PySem.W.Frag, K.In h ∧ SaysP fa fn gs ex w h K
  of := fun _ _ e => ⟨_, He.frT_in, saysQ_of e⟩
  keeps := fun _ _ _ ⟨K, hK, c⟩ k => ⟨K, PySem.W.Frag.In.keeps hK k, ⟨⟨c.x.t, c.x.more, c.x.hd, c.x.out, fun p hp => k _ _ (c.x.empty p hp)⟩, c.g⟩⟩
theorem obsQ_eq {n : Nat} {fa : List He.Fa} {fn gs : List He.DefD} {ex : PySem.W.Frag → Bool} {g : Addr → Option Obj} {s : Shared} (h : ∀ a, g a = s.heap.get? a) : obsQ n fa fn gs ex g = (hookQ n fa fn gs ex).obs s := by
  rw [show g = s.heap.get? from funext h]; rfl
end Tp
end
section
set_option Elab.async false
set_option linter.all false
set_option maxRecDepth 100000
set_option maxHeartbeats 2000000
/-! TqD: x.extend(list). -/
namespace Tp
open PySem PySem.Spec PyProof.Rows L2

/-- x.extend(e) -/
def sExtend (i : Nat) (a : CE) : C1 where
  ev := fun ρ T => match ρ[i]? with
    | some (some (.ow xs)) => (evD a.ev ρ T).bind fun d T1 => match d with
      | .lst ys => if xs.length + ys.length ≤ lim then .ok (.nx (ρ.set i (some (.ow (xs ++ ys))))) T1 else .no
      | _ => .no
    | _ => .no
  chk := fun k sc st => match st with
    | .Expr (.Call (.Attribute (.Name x _) m ap) [e] [] cp) _ => decide (m = ("extend" : Str)) && ((ap.endLine == cp.line) && (isVar sc i x && (notStar e && a.chk k sc e)))
    | _ => false
  need := a.need
  ok := by
    intro Γ k W sc X st g nd h
    split at h
    · obtain ⟨h1, h⟩ := b2 h
      obtain ⟨hl, h⟩ := b2 h
      obtain ⟨h2, h⟩ := b2 h
      obtain ⟨h3, h4⟩ := b2 h
      have hm := of_decide_eq_true h1
      subst hm
      refine PS.mono (ps_expr (pe_bm PySem.F.plainAttrs_list PySem.F.slot_list_extend PySem.F.type_list_extend mt_extend (isVar_ok g h2) (pa_cons (a.ok (n := X.s_0.heap.objs.size) g nd h4 fun _ => rfl) pa_nil (star_cons h3)) (by rfl) (by rw [star_cons h3]; rfl) hl (star_cons h3) rfl) rfl) fun D σ H q => ?_
      obtain ⟨I, ρ, T, own, w, er, p⟩ := q
      have p' : PostS Γ X.s_0.heap.objs.size W D (Ow own) H I (match ρ[i]? with
        | some (some (.ow xs)) => (evD a.ev ρ T).bind fun d T1 => match d with
          | .lst ys => if xs.length + ys.length ≤ lim then .ok (.nx (ρ.set i (some (.ow (xs ++ ys))))) T1 else .no
          | _ => .no
        | _ => .no) := p
      split at p'
      · rename_i xs e1
        obtain ⟨b, vs, o1, o2, o3, o4⟩ := own_list er e1
        refine ⟨_, o2, .inl ⟨rfl, _, SqL.of o3⟩, ?_⟩
        refine ⟨I, ρ, T, own, w, er, Post.toD ((PostS.step (rel := relD Γ) p' Ext.refl).imp fun v H1 q1 => ?_)⟩
        obtain ⟨d, T1, I1, _, x1, w1, r1, p1⟩ := q1
        split at p1
        · rename_i ys
          split at p1
          · rename_i hl
            obtain ⟨f1, f2, f3⟩ := er.free i b (by rw [o1]; simp)
            have o3' : H1 b = some (.lst vs) := x1.fr _ _ o3 f2 fun z => z
            have o4' := o4.mono x1.le
            obtain ⟨c, us, rfl, c2, c3⟩ := r1.lst
            refine ⟨b, c, vs, us, rfl, rfl, o3', w1.gh _ _ c2, by rw [o4.length, c3.length]; exact Nat.le_of_lt_succ (Nat.lt_succ_of_le (Nat.le_trans hl (by first | exact lim_le | exact Nat.le_of_lt lim_le | decide))), ?_⟩
            exact p1 σ _ I1 own (write_aft er x1 w1 e1 o1 o2 ⟨b, _, rfl, rfl, upd_same, o4'.append c3⟩)
          · exact p1.elim
        · exact p1.elim
      · exact p'.elim
    · cases h
end Tp
end
section
set_option Elab.async false
set_option linter.all false
set_option maxRecDepth 100000
set_option maxHeartbeats 2000000
/-! TqE: sorted(ints), max(ints). -/
namespace Tp
open PySem PySem.Spec PyProof.Rows L2

def insI (a : Int) : List Int → List Int
  | [] => [a]
  | b :: l => if a ≤ b then a :: b :: l else b :: insI a l
def srtI : List Int → List Int
  | [] => []
  | a :: l => insI a (srtI l)
theorem insI_perm (a : Int) : ∀ l : List Int, (insI a l).Perm (a :: l)
  | [] => .refl _
  | b :: l => by
    show (if a ≤ b then a :: b :: l else b :: insI a l).Perm _
    split
    · exact .refl _
    · exact ((insI_perm a l).cons b).trans (.swap a b l)
theorem srtI_perm : ∀ l : List Int, (srtI l).Perm l
  | [] => .refl _
  | a :: l => (insI_perm a (srtI l)).trans ((srtI_perm l).cons a)
theorem insI_pw (a : Int) : ∀ l : List Int, l.Pairwise (· ≤ ·) → (insI a l).Pairwise (· ≤ ·)
  | [], _ => List.pairwise_singleton _ _
  | b :: l, h => by
    show (if a ≤ b then a :: b :: l else b :: insI a l).Pairwise _
    rw [List.pairwise_cons] at h
    split
    · rename_i hab
      rw [List.pairwise_cons]
      refine ⟨fun c hc => ?_, List.pairwise_cons.mpr h⟩
      rcases List.mem_cons.mp hc with rfl | hc
      · exact hab
      · exact Int.le_trans hab (h.1 c hc)
    · rename_i hab
      rw [List.pairwise_cons]
      refine ⟨fun c hc => ?_, insI_pw a l h.2⟩
      rcases List.mem_cons.mp ((insI_perm a l).mem_iff.mp hc) with rfl | hc
      · omega
      · exact h.1 c hc
theorem srtI_pw : ∀ l : List Int, (srtI l).Pairwise (· ≤ ·)
  | [] => .nil
  | a :: l => insI_pw a _ (srtI_pw l)
theorem srtI_eq {l m : List Int} (p : m.Perm l) (s : m.Pairwise (· ≤ ·)) : m = srtI l :=
  List.Perm.eq_of_pairwise (fun _ _ _ _ a b => Int.le_antisymm a b) s (srtI_pw l) (p.trans (srtI_perm l).symm)
theorem srtI_len (l : List Int) : (srtI l).length = l.length := (srtI_perm l).length_eq
theorem reps_ints {Γ : Gam} {I : Im} : ∀ ns : List Int, Reps Γ I (ns.map .int) (ns.map .int)
  | [] => Reps.nil
  | a :: ns => Reps.cons .ofInt (reps_ints ns)
def gSorted (a : R) : Option R := match rLs2 a with
  | some xs => (intsOf xs).map fun ns => rL ((srtI ns).map .int)
  | none => none
def bSorted : Blt := bltF "sorted" "sorted" (f1 gSorted) PyProof.Rows.boot_sorted fun {Γ k W sc X n} g => by
  refine CallR.mono cr_sortedI (rdN_one (fun _ _ => f1_one) fun H I T own Hs a c x Q w ra e q => ?_)
  have e1 : gSorted a = some c := e
  unfold gSorted at e1
  split at e1
  · rename_i xs e0
    obtain ⟨ns, e2, rfl⟩ := Option.map_eq_some_iff.mp e1
    obtain ⟨p, vs, rfl, p1, p2⟩ := rLs2_ok w e0 ra
    rw [intsOf_ok e2] at p2
    rw [p2.ints] at p1
    refine ⟨p, ns, rfl, by rw [g.K]; exact p1, fun ns' b hp hs hb => ?_⟩
    rw [srtI_eq hp hs]
    exact give_list w (reps_ints _) q b hb
  · cases e1
def maxI : List Int → Option Int
  | [] => none
  | a :: l => some (l.foldl max a)
def gMaxL (a : R) : Option R := match rLs2 a with
  | some xs => (intsOf xs).bind fun ns => (maxI ns).map rI
  | none => none
theorem foldl_max : ∀ (l : List Int) (a m : Int), (m = a ∨ m ∈ l) → (a ≤ m) → (∀ y, y ∈ l → y ≤ m) → l.foldl max a = m
  | [], a, m, h, h1, _ => by
    rcases h with rfl | h
    · rfl
    · cases h
  | b :: l, a, m, h, h1, h2 => by
    show l.foldl max (max a b) = m
    have hb := h2 b List.mem_cons_self
    refine foldl_max l (max a b) m ?_ (by omega) fun y hy => h2 y (List.mem_cons_of_mem _ hy)
    rcases h with rfl | h
    · left; omega
    · rcases List.mem_cons.mp h with rfl | h
      · left; omega
      · exact .inr h
def bMaxL : Blt := bltF "max" "max" (f1 gMaxL) PyProof.Rows.boot_max fun {Γ k W sc X n} g => by
  refine CallR.mono (cr_max g.calm) (rdN_one (fun _ _ => f1_one) fun H I T own Hs a c x Q w ra e q => ?_)
  have e1 : gMaxL a = some c := e
  unfold gMaxL at e1
  split at e1
  · rename_i xs e0
    obtain ⟨ns, e2, e3⟩ := Option.bind_eq_some_iff.mp e1
    obtain ⟨m0, e4, rfl⟩ := Option.map_eq_some_iff.mp e3
    obtain ⟨p, vs, rfl, p1, p2⟩ := rLs2_ok w e0 ra
    rw [intsOf_ok e2] at p2
    rw [p2.ints] at p1
    refine ⟨p, ns, rfl, by rw [g.K]; exact p1, ?_, fun m hm hy => ?_⟩
    · cases ns with
      | nil => cases e4
      | cons => exact Nat.succ_pos _
    · have em : m0 = m := by
        cases ns with
        | nil => cases e4
        | cons b l =>
          cases e4
          refine foldl_max l b m ?_ (hy b List.mem_cons_self) fun y h => hy y (List.mem_cons_of_mem _ h)
          rcases List.mem_cons.mp hm with rfl | h
          · exact .inl rfl
          · exact .inr h
      rw [← em]
      exact give_val w .ofInt q
  · cases e1
end Tp
end
section
set_option Elab.async false
set_option linter.all false
set_option maxRecDepth 100000
set_option maxHeartbeats 2000000
/-! TqF: y = x.pop(i). -/
namespace Tp
open PySem PySem.Spec PyProof.Rows L2

theorem Reps.eraseIdx {Γ : Gam} {I : Im} {ds : List D} {vs : List V} (h : Reps Γ I ds vs) (k : Nat) : Reps Γ I (ds.eraseIdx k) (vs.eraseIdx k) := by
  rw [List.eraseIdx_eq_take_drop_succ, List.eraseIdx_eq_take_drop_succ]
  exact (h.take k).append (h.drop (k + 1))
/-- what y and x are after y = x.pop(m) -/
def popTo (j i : Nat) (ρ : Env) (xs : List D) (m : Int) : Option Env :=
  if 0 ≤ m ∧ m < 1000000 ∧ j < ρ.length then (xs[m.toNat]?).map fun y => (ρ.set i (some (.ow (xs.eraseIdx m.toNat)))).set j (some (.sh y)) else none
/-- y = x.pop(e) -/
def sPopTo (j i : Nat) (a : CE) : C1 where
  ev := fun ρ T => match ρ[i]? with
    | some (some (.ow xs)) => (evD a.ev ρ T).bind fun d T1 => match d with
      | .int m => match popTo j i ρ xs m with
        | some ρ' => .ok (.nx ρ') T1
        | none => .no
      | _ => .no
    | _ => .no
  chk := fun k sc st => match st with
    | .Assign [.Name y py] (.Call (.Attribute (.Name x xp) m ap) [e] [] cp) _ => decide (m = ("pop" : Str)) && (okStore sc j y && (noSwap sc.nm y py (.Call (.Attribute (.Name x xp) m ap) [e] [] cp) && ((ap.endLine == cp.line) && (isVar sc i x && (notStar e && a.chk k sc e)))))
    | _ => false
  need := a.need
  ok := by
    intro Γ k W sc X st g nd h
    split at h
    · rename_i y py x xp m ap e cp pos
      obtain ⟨h1, h⟩ := b2 h
      obtain ⟨h5, h⟩ := b2 h
      obtain ⟨h6, h⟩ := b2 h
      obtain ⟨hl, h⟩ := b2 h
      obtain ⟨h2, h⟩ := b2 h
      obtain ⟨h3, h4⟩ := b2 h
      have hm := of_decide_eq_true h1
      subst hm
      obtain ⟨s1, s2, s3⟩ := okStore_ok g h5
      have hs : swapsWith (.Call (.Attribute (.Name x xp) ("pop" : Str) ap) [e] [] cp) (some (.Name y py)) pos.line X.env = pure false := noSwap_ok g.fk (by rw [g.nm]; exact h6) _
      refine PS.mono (ps_set (i := j) g.nd s1 s2 (pe_bm PySem.F.plainAttrs_list PySem.F.slot_list_pop PySem.F.type_list_pop mt_popAt (isVar_ok g h2) (pa_cons (a.ok (n := X.s_0.heap.objs.size) g nd h4 fun _ => rfl) pa_nil (star_cons h3)) (by rfl) (by rw [star_cons h3]; rfl) hl (star_cons h3) rfl) hs s3) fun D σ H q => ?_
      obtain ⟨I, ρ, T, own, w, er, p⟩ := q
      have p' : PostS Γ X.s_0.heap.objs.size W D (Ow own) H I (match ρ[i]? with
        | some (some (.ow xs)) => (evD a.ev ρ T).bind fun d T1 => match d with
          | .int m => match popTo j i ρ xs m with
            | some ρ' => .ok (.nx ρ') T1
            | none => .no
          | _ => .no
        | _ => .no) := p
      split at p'
      · rename_i xs e1
        obtain ⟨b, vs, o1, o2, o3, o4⟩ := own_list er e1
        refine ⟨_, o2, .inl ⟨rfl, _, SqL.of o3⟩, ?_⟩
        refine ⟨I, ρ, T, own, w, er, Post.toD ((PostS.step (rel := relD Γ) p' Ext.refl).imp fun v H1 q1 => ?_)⟩
        obtain ⟨d, T1, I1, _, x1, w1, r1, p1⟩ := q1
        split at p1
        · rename_i m _
          split at p1
          · rename_i ρ' e2
            unfold popTo at e2
            split at e2
            · rename_i hc
              obtain ⟨c1, c2, c3⟩ := hc
              obtain ⟨y', e3, e4⟩ := Option.map_eq_some_iff.mp e2
              subst e4
              obtain ⟨f1, f2, f3⟩ := er.free i b (by rw [o1]; simp)
              have o3' : H1 b = some (.lst vs) := x1.fr _ _ o3 f2 fun z => z
              have o4' := o4.mono x1.le
              obtain ⟨u, u1, u2⟩ := o4'.get e3
              have hk : m.toNat < vs.length := (List.getElem?_eq_some_iff.mp u1).1
              have hv := r1.int
              subst hv
              refine ⟨b, vs, m, m.toNat, u, rfl, rfl, o3', by omega, by omega, ?_, u1, ?_⟩
              · have hn : ¬ m < 0 := by omega
                have hb : (decide (0 ≤ m) && decide (m < (vs.length : Int))) = true := by
                  rw [decide_eq_true c1, decide_eq_true (show m < (vs.length : Int) by omega)]; rfl
                show (if (decide (0 ≤ (if m < 0 then m + vs.length else m)) && decide ((if m < 0 then m + vs.length else m) < (vs.length : Int))) = true then some (if m < 0 then m + (vs.length : Int) else m).toNat else none) = _
                rw [if_neg hn, if_pos hb]
              · have af := write_aft er x1 w1 e1 o1 o2 (lv' := .ow (xs.eraseIdx m.toNat)) ⟨b, _, rfl, rfl, upd_same, o4'.eraseIdx m.toNat⟩
                obtain ⟨own', af2⟩ := store_aft (lv := .sh y') (v := u) (as := []) (i := j) af.er (by rw [List.length_set]; exact c3) Ext.refl af.wf ⟨rfl, u2⟩ (fun _ hz => by cases hz)
                exact p1 _ _ _ _ (af.trans af2)
            · cases e2
          · exact p1.elim
        · exact p1.elim
      · exact p'.elim
    · cases h
end Tp
end
section
set_option Elab.async false
set_option linter.all false
set_option maxRecDepth 100000
set_option maxHeartbeats 2000000
/-! TqG: x = [..] over a list that is lent. -/
namespace Tp
open PySem PySem.Spec PyProof.Rows L2

theorem bor_relR {Γ : Gam} {n : Nat} {own own' : Nat → List Addr} {Hs H' : Hp} {I I1 : Im} {r : R} {v : V} (gg : ∀ a o, I.G a = some o → I1.G a = some o) (kk : ∀ a, a ∈ I.κ → a ∈ I1.κ) (ho : okBor r = true) (q : RepR Γ n own' Hs H' I1 r v) : RepR Γ n own Hs H' I r v := by
  unfold okBor at ho
  split at ho
  · exact RepR.sh (q.unsh.flat0 ho)
  · obtain ⟨as, ⟨b, vs, rfl, h2, h3, h4⟩, h5⟩ := q
    refine ⟨[b], ⟨b, vs, rfl, h2, h3, h4.flat0 ho⟩, fun c hc => ?_⟩
    obtain ⟨g1, g2, g3, g4⟩ := h5 c hc
    refine ⟨?_, fun z => g2 (kk c z), g3, g4⟩
    cases e : I.G c with
    | none => rfl
    | some o => rw [gg c o e] at g1; cases g1
  · cases ho
/-- x = [..], the b-th local's own list lent -/
def sAsgLcB (b j : Nat) (keep : Bool) (t : CG) (i : CI) (c : Option CT) (e : CE) (own : List (Str × Nat)) : C1 where
  ev := fun ρ T => (evBor b okBor (evLc t i c e own) ρ T).bind fun r T1 => match asLV keep r with
    | some lv => if j < ρ.length then .ok (.nx (ρ.set j (some lv))) T1 else .no
    | none => .no
  chk := fun k sc st => match st with
    | .Assign [.Name x px] (.ListComp elt gs scope p) _ => slotIs sc.N j x && (decide (sc.nm.lookup x = some .local) && ((px.line == p.line) && (!(scope.names.any fun (n, k) => n == x && (k == .local || k == .cell)) && chkLc t i c e own k sc (.ListComp elt gs scope p))))
    | _ => false
  need := fun Γ => t.need Γ ∧ i.need Γ ∧ needC c Γ ∧ e.need Γ
  ok := by
    intro Γ k W sc X st g nd h
    split at h
    · rename_i x px elt gs scope p pos
      obtain ⟨h1, h⟩ := b2 h
      obtain ⟨h2, h⟩ := b2 h
      obtain ⟨h3, h⟩ := b2 h
      obtain ⟨h4, h⟩ := b2 h
      have h0 := h
      unfold chkLc at h0
      split at h0
      · rename_i hh
        cases hh
        obtain ⟨q1, q2, q3, q4, q5, q6, q7, q8⟩ := lc_parts (n := X.s_0.heap.objs.size) g nd h fun _ => rfl
        have hl : X.env.scope.names.lookup x = some .local := by rw [g.nm]; exact of_decide_eq_true h2
        refine PS.mono (ps_setLc (i := j) g.calm g.nd (by rw [g.N]; exact slotIs_ok h1) hl (sw_true g.fk hl h3 (notT h4)) q1 q2 q3 q4 q5 q6) fun D σ H q => ?_
        obtain ⟨I, ρ, T, own', w, er, p⟩ := q
        have P : Post Γ (RepR Γ X.s_0.heap.objs.size own') W σ H I (evBor b okBor (evLc t i c e own) ρ T) (fun v H1 => D.nx (σ.set j (some v)) H1) := by
          refine (PostS.step (rel := RepR Γ X.s_0.heap.objs.size own') (show PostS Γ X.s_0.heap.objs.size W D (Ow own') H I ((evBor b okBor (evLc t i c e own) ρ T).bind _) from p) Ext.refl).imp fun v H1 q1 => ?_
          obtain ⟨r, T1, I1, _, x1, w1, r1, p1⟩ := q1
          split at p1
          · rename_i lv e1
            split at p1
            · rename_i hi
              obtain ⟨I2, as, x2, w2, _, l2, f2⟩ := asLV_ok x1 w1 e1 r1
              obtain ⟨own', af⟩ := store_aft er hi x2 w2 l2 f2
              exact p1 _ _ _ _ af
            · exact p1.elim
          · exact p1.elim
        obtain ⟨I2, ρ2, T2, own2, w2, er2, p2⟩ := bor_run (rel := fun own => RepR Γ X.s_0.heap.objs.size own) (fun {own own' Hs H' I I1 r v} gg kk ho q => bor_relR gg kk ho q) w er P
        exact lc_main q7 q8 w2 er2 (Post.lc (n := X.s_0.heap.objs.size) (own := own2) p2)
      · cases h0
    · cases h
end Tp
end
section
set_option Elab.async false
set_option linter.all false
set_option maxRecDepth 100000
set_option maxHeartbeats 2000000
/-! TqH: zip of a list and a tuple. -/
namespace Tp
open PySem PySem.Spec PyProof.Rows L2

section
variable {pr : Program} {wo : World} {Ar : Around} {Ex : Value → Shared → Prop} {m : Shared}
/-- how the five parts lie: the zip, what it draws from, its own tuple, the list's iterator, the tuple's -/
structure LTat (h : Heap) (z u o p q l t : Addr) (f : Value) (c d : Value) (j k : Nat) : Prop where
  z0 : IsZip h z u o f
  u0 : IsPair h u (.ref p) (.ref q)
  o0 : IsPair h o c d
  p0 : h.IsListIter p l j
  q0 : h.IsTupleIter q t k
theorem lt_step {z u o p q l t : Addr} {j k : Nat} {xs ys : Array Value} {x y c d : Value} {G : Value → Shared → Prop} (D : ZipApart z u o p q l t)
    (L : LTat m.heap z u o p q l t .none c d j k) (ml : m.heap.IsList l xs) (mt : m.heap.IsTuple t ys) (ex : xs[j]? = some x) (ey : ys[k]? = some y)
    (go : ∀ h', LTat h' z u o p q l t (rawInt m.heap.objs.size) x y (j + 1) (k + 1) → IsPair h' m.heap.objs.size x y → h'.objs.size = m.heap.objs.size + 1 →
      (∀ c o', c ≠ z → c ≠ o → c ≠ p → c ≠ q → m.heap.get? c = some o' → h'.get? c = some o') → G (.ref m.heap.objs.size) { m with heap := h' }) :
    wpAny (model pr wo) Ar (Builtin.«zip.__next__» ⟨[.ref z], []⟩) (fun fin s' => ∃ v, fin = .done (.ret v) ∧ G v s') Ex m := by
  obtain ⟨z0, u0, o0, p0, q0⟩ := L
  show wpAny _ _ (field (.ref z) 2 >>= fun v => _) _ _ _
  refine wpAny_bind (wpAny_field (i := 2) z0 rfl (x := .bool false) rfl ?_)
  show wpAny _ _ (field (.ref z) 3 >>= fun v => _) _ _ _
  refine wpAny_bind (wpAny_field (i := 3) z0 rfl (x := .ref u) rfl ?_)
  refine wpAny_bind (wpAny_seqItems u0 rfl ?_)
  show wpAny _ _ (Builtin.SmallTypes.ownedTupleIsFree (.ref z) >>= fun v => _) _ _ _
  refine wpAny_bind ?_
  unfold Builtin.SmallTypes.ownedTupleIsFree
  refine wpAny_bind (wpAny_field (i := 0) z0 rfl (x := .none) rfl (wpAny_pure ?_))
  simp only [if_true]
  refine wpAny_bind (wpAny_rule ?_)
  refine wpAny_bind (wpAny_field (i := 4) z0 rfl (x := .ref o) rfl ?_)
  refine wpAny_bind (wpAny_setField_rec z0 (by simp) fun k1 z1 s1 => ?_)
  replace z1 : IsZip k1 z u o .ellipsis := z1
  refine wpAny_bind ?_
  simp only [List.zipIdx_cons, List.zipIdx_nil, List.forIn_cons, List.forIn_nil]
  refine wpAny_bind (wpAny_bind (wpAny_onRaise ?_))
  show wpAny _ _ (Builtin.SmallTypes.nextOf (.ref p) >>= fun v => _) _ _ _
  refine wpAny_bind (wpAny_nextOf_list_item (p0.extBut s1.extBut D.i1z) (ml.extBut s1.extBut D.l1z) ex fun k2 p2 s2 => wpAny_pure ?_)
  have o2 : IsPair k2 o c d := s2.extBut _ _ D.TOi1 (s1.extBut _ _ D.TOz o0)
  refine wpAny_bind (wpAny_seqItems o2 rfl ?_)
  refine wpAny_bind (wpAny_updateSeq_pair o2 fun k3 o3 s3 => ?_)
  replace o3 : IsPair k3 o x d := o3
  refine wpAny_bind (wpAny_letGo (wpAny_pure ?_))
  refine wpAny_bind (wpAny_bind (wpAny_onRaise ?_))
  show wpAny _ _ (Builtin.SmallTypes.nextOf (.ref q) >>= fun v => _) _ _ _
  refine wpAny_bind (RZ.nextOf_tuple_item (((q0.extBut s1.extBut D.i2z).extBut s2.extBut D.i12.symm).extBut s3.extBut D.TOi2.symm)
    (((mt.extBut s1.extBut D.l2z).extBut s2.extBut D.l2i1).extBut s3.extBut D.l2TO) ey fun k4 q4 s4 => wpAny_pure ?_)
  have o4 : IsPair k4 o x d := s4.extBut _ _ D.TOi2 o3
  refine wpAny_bind (wpAny_seqItems o4 rfl ?_)
  refine wpAny_bind (wpAny_updateSeq_pair o4 fun k5 o5 s5 => ?_)
  replace o5 : IsPair k5 o x y := o5
  refine wpAny_bind (wpAny_letGo (wpAny_pure (wpAny_pure ?_)))
  refine wpAny_bind (wpAny_seqItems o5 rfl ?_)
  refine wpAny_bind (wpAny_newTuple ?_)
  have sz : k5.objs.size = m.heap.objs.size := by rw [s5.1, s4.1, s3.1, s2.1, s1.1]
  have z5 : IsZip k5 z u o .ellipsis := s5.extBut _ _ D.TOz.symm (s4.extBut _ _ D.i2z.symm (s3.extBut _ _ D.TOz.symm (s2.extBut _ _ D.i1z.symm z1)))
  have keep : ∀ c o', c ≠ z → c ≠ o → c ≠ p → c ≠ q → m.heap.get? c = some o' → k5.get? c = some o' := fun c o' c1 c2 c3 c4 e =>
    s5.extBut _ _ c2 (s4.extBut _ _ c4 (s3.extBut _ _ c2 (s2.extBut _ _ c3 (s1.extBut _ _ c1 e))))
  have p5 : k5.IsListIter p l (j + 1) := ((p2.extBut s3.extBut D.TOi1.symm).extBut s4.extBut D.i12).extBut s5.extBut D.TOi1.symm
  have q5 : k5.IsTupleIter q t (k + 1) := q4.extBut s5.extBut D.TOi2.symm
  have zlt : z < k5.objs.size := Heap.lt_size z5
  show wpAny _ _ (Builtin.SmallTypes.ownedTupleHandOut (.ref z) (.ref k5.objs.size) >>= fun v => _) _ _ _
  refine wpAny_bind ?_
  unfold Builtin.SmallTypes.ownedTupleHandOut
  have z6 : IsZip (k5.push { cls := .type "tuple", data := .seq #[x, y] }) z u o .ellipsis := Heap.get?_push_of_some _ z5
  refine wpAny_bind (wpAny_setField_rec z6 (by simp) fun k7 z7 s7 => ?_)
  replace z7 : IsZip k7 z u o (rawInt k5.objs.size) := z7
  refine wpAny_setField_rec z7 (by simp) fun k8 z8 s8 => ?_
  replace z8 : IsZip k8 z u o (rawInt k5.objs.size) := z8
  have up : ∀ c o', c ≠ z → k5.get? c = some o' → k8.get? c = some o' := fun c o' c1 e => s8.extBut _ _ c1 (s7.extBut _ _ c1 (Heap.get?_push_of_some _ e))
  have n8 : IsPair k8 k5.objs.size x y := s8.extBut _ _ (Nat.ne_of_gt zlt) (s7.extBut _ _ (Nat.ne_of_gt zlt) (Heap.get?_push_size _ rfl))
  have e8 : k8.objs.size = k5.objs.size + 1 := by rw [s8.1, s7.1, Heap.size_push]
  rw [sz] at z8 n8 e8
  refine wpAny_pure ⟨_, rfl, ?_⟩
  show G (.ref k5.objs.size) _
  rw [sz]
  exact go k8 ⟨z8, up _ _ D.TIz (keep _ _ D.TIz D.TITO D.TIi1 D.TIi2 u0), up _ _ D.TOz o5, p5.at fun o' e => up _ o' D.i1z e, q5.at fun o' e => up _ o' D.i2z e⟩ n8 e8 fun c o' c1 c2 c3 c4 e => up c o' c1 (keep c o' c1 c2 c3 c4 e)

theorem lt_last {z u o p q l t : Addr} {j k : Nat} {xs ys : Array Value} {c d : Value} {G : Fin → Shared → Prop} (hh : Ar.handled = none) (D : ZipApart z u o p q l t)
    (L : LTat m.heap z u o p q l t .none c d j k) (ml : m.heap.IsList l xs) (mt : m.heap.IsTuple t ys) (en : xs[j]? = none ∨ ys[k]? = none)
    (go : ∀ h' e, (∀ c o', c ≠ z → c ≠ o → c ≠ p → c ≠ q → m.heap.get? c = some o' → h'.get? c = some o') → (∃ o', h'.get? e = some o' ∧ o'.cls = .type "StopIteration") → Ex (.ref e) { m with heap := h' }) :
    wpAny (model pr wo) Ar (Builtin.«zip.__next__» ⟨[.ref z], []⟩) G Ex m := by
  obtain ⟨z0, u0, o0, p0, q0⟩ := L
  show wpAny _ _ (field (.ref z) 2 >>= fun v => _) _ _ _
  refine wpAny_bind (wpAny_field (i := 2) z0 rfl (x := .bool false) rfl ?_)
  show wpAny _ _ (field (.ref z) 3 >>= fun v => _) _ _ _
  refine wpAny_bind (wpAny_field (i := 3) z0 rfl (x := .ref u) rfl ?_)
  refine wpAny_bind (wpAny_seqItems u0 rfl ?_)
  show wpAny _ _ (Builtin.SmallTypes.ownedTupleIsFree (.ref z) >>= fun v => _) _ _ _
  refine wpAny_bind ?_
  unfold Builtin.SmallTypes.ownedTupleIsFree
  refine wpAny_bind (wpAny_field (i := 0) z0 rfl (x := .none) rfl (wpAny_pure ?_))
  simp only [if_true]
  refine wpAny_bind (wpAny_rule ?_)
  refine wpAny_bind (wpAny_field (i := 4) z0 rfl (x := .ref o) rfl ?_)
  refine wpAny_bind (wpAny_setField_rec z0 (by simp) fun k1 z1 s1 => ?_)
  replace z1 : IsZip k1 z u o .ellipsis := z1
  refine wpAny_bind ?_
  simp only [List.zipIdx_cons, List.zipIdx_nil, List.forIn_cons, List.forIn_nil]
  refine wpAny_bind (wpAny_bind (wpAny_onRaise ?_))
  show wpAny _ _ (Builtin.SmallTypes.nextOf (.ref p) >>= fun v => _) _ _ _
  cases ex : xs[j]? with
  | none =>
    refine wpAny_bind (wpAny_nextOf_list_end hh (p0.extBut s1.extBut D.i1z) (ml.extBut s1.extBut D.l1z) ex fun k2 e s2 ⟨oe, he, ce⟩ => ?_)
    have z2 : IsZip k2 z u o .ellipsis := s2 _ _ D.i1z.symm z1
    have ez : e ≠ z := fun x => by subst x; rw [z2] at he; cases he; simp at ce
    refine wpAny_setField_rec z2 (by simp) fun k3 _ s3 => go k3 e (fun c o' c1 _ c3 _ x => s3.extBut _ _ c1 (s2 _ _ c3 (s1.extBut _ _ c1 x))) ⟨oe, s3.extBut _ _ ez he, ce⟩
  | some x =>
    have ey : ys[k]? = none := by rcases en with h | h; rw [ex] at h; cases h; exact h
    refine wpAny_bind (wpAny_nextOf_list_item (p0.extBut s1.extBut D.i1z) (ml.extBut s1.extBut D.l1z) ex fun k2 p2 s2 => wpAny_pure ?_)
    have o2 : IsPair k2 o c d := s2.extBut _ _ D.TOi1 (s1.extBut _ _ D.TOz o0)
    refine wpAny_bind (wpAny_seqItems o2 rfl ?_)
    refine wpAny_bind (wpAny_updateSeq_pair o2 fun k3 o3 s3 => ?_)
    refine wpAny_bind (wpAny_letGo (wpAny_pure ?_))
    refine wpAny_bind (wpAny_bind (wpAny_onRaise ?_))
    show wpAny _ _ (Builtin.SmallTypes.nextOf (.ref q) >>= fun v => _) _ _ _
    refine wpAny_bind (RZ.nextOf_tuple_end hh (((q0.extBut s1.extBut D.i2z).extBut s2.extBut D.i12.symm).extBut s3.extBut D.TOi2.symm)
      (((mt.extBut s1.extBut D.l2z).extBut s2.extBut D.l2i1).extBut s3.extBut D.l2TO) ey fun k4 e s4 ⟨oe, he, ce⟩ => ?_)
    have z4 : IsZip k4 z u o .ellipsis := s4 _ _ D.i2z.symm (s3.extBut _ _ D.TOz.symm (s2.extBut _ _ D.i1z.symm z1))
    have ez : e ≠ z := fun x => by subst x; rw [z4] at he; cases he; simp at ce
    refine wpAny_setField_rec z4 (by simp) fun k5 _ s5 => go k5 e (fun c o' c1 c2 c3 c4 x => s5.extBut _ _ c1 (s4 _ _ c4 (s3.extBut _ _ c2 (s2.extBut _ _ c3 (s1.extBut _ _ c1 x))))) ⟨oe, s5.extBut _ _ ez he, ce⟩

theorem lt_pyItem {z u o p q l t : Addr} {j k : Nat} {xs ys : Array Value} {x y c d : Value} {G : Option Value → Shared → Prop} (D : ZipApart z u o p q l t)
    (L : LTat m.heap z u o p q l t .none c d j k) (ml : m.heap.IsList l xs) (mt : m.heap.IsTuple t ys) (ex : xs[j]? = some x) (ey : ys[k]? = some y)
    (go : ∀ h', LTat h' z u o p q l t (rawInt m.heap.objs.size) x y (j + 1) (k + 1) → IsPair h' m.heap.objs.size x y → h'.objs.size = m.heap.objs.size + 1 →
      (∀ c o', c ≠ z → c ≠ o → c ≠ p → c ≠ q → m.heap.get? c = some o' → h'.get? c = some o') → G (some (.ref m.heap.objs.size)) { m with heap := h' }) :
    wpAny (model pr wo) Ar (pyNext (.ref z)) G Ex m := by
  have ty : m.TypeIs (.ref z) "zip" := ⟨_, L.z0, rfl⟩
  unfold pyNext
  exact wpAny_bind (wpAny_attempt (wpAny_callSpecial?_slot (name := Str.ofString "__next__") ty F.slot_zip_next
    (wpAny_call_entry F.slot_zip_next ty F.entry_zip_next (lt_step D L ml mt ex ey fun h' a1 a2 a3 a4 => wpAny_pure (go h' a1 a2 a3 a4)) (F.args_zip_next_1 _))))
theorem lt_pyEnd {z u o p q l t : Addr} {j k : Nat} {xs ys : Array Value} {c d : Value} {G : Option Value → Shared → Prop} (hh : Ar.handled = none) (D : ZipApart z u o p q l t)
    (L : LTat m.heap z u o p q l t .none c d j k) (ml : m.heap.IsList l xs) (mt : m.heap.IsTuple t ys) (en : xs[j]? = none ∨ ys[k]? = none)
    (go : ∀ h', (∀ c o', c ≠ z → c ≠ o → c ≠ p → c ≠ q → m.heap.get? c = some o' → h'.get? c = some o') → G none { m with heap := h' }) :
    wpAny (model pr wo) Ar (pyNext (.ref z)) G Ex m := by
  have ty : m.TypeIs (.ref z) "zip" := ⟨_, L.z0, rfl⟩
  unfold pyNext
  refine wpAny_bind (wpAny_attempt (wpAny_callSpecial?_slot (name := Str.ofString "__next__") ty F.slot_zip_next
    (wpAny_call_entry F.slot_zip_next ty F.entry_zip_next (lt_last hh D L ml mt en fun h' e kk ⟨o', ho, hc⟩ => ?_) (F.args_zip_next_1 _))))
  refine wpAny_bind (wpAny_isInstance (T := "StopIteration") (b := true) ⟨o', ho, hc⟩ isSubtype_stop ?_)
  exact wpAny_pure (go _ kk)
end
abbrev ltH1 (h : Heap) (l : Addr) : Heap := h.push { cls := .type "list_iterator", data := .fields #[.ref l, .int 0 0] }
abbrev ltH2 (h : Heap) (l t : Addr) : Heap := (ltH1 h l).push { cls := .type "tuple_iterator", data := .fields #[.ref t, .int 0 0] }
abbrev ltH3 (h : Heap) (l t : Addr) : Heap := (ltH2 h l t).push { cls := .type "tuple", data := .seq #[.ref h.objs.size, .ref (ltH1 h l).objs.size] }
abbrev ltH4 (h : Heap) (l t : Addr) : Heap := (ltH3 h l t).push { cls := .type "tuple", data := .seq #[.none, .none] }
abbrev ltH5 (h : Heap) (l t : Addr) : Heap := (ltH4 h l t).push { cls := .type "zip", data := .fields #[.none, .bool false, .bool false, .ref (ltH2 h l t).objs.size, .ref (ltH3 h l t).objs.size] }
theorem lt_meets (l t : Addr) (xs ys : Array Value) :
    Meets (Builtin.«zip.__new__» ⟨[.type "zip", .ref l, .ref t], []⟩) (fun _ R m => m.heap.IsList l xs ∧ m.heap.IsTuple t ys ∧
      R (.ok (.ret (.ref (ltH4 m.heap l t).objs.size))) { m with heap := ltH5 m.heap l t }) :=
  .of_wp fun pr wo Ar R m h => by
    obtain ⟨hp, g, d, tk, os⟩ := m; obtain ⟨ml, mt, h⟩ := h
    have hsub := sub_zip
    have ml' : Heap.IsList (Shared.heap ⟨hp, g, d, tk, os⟩) l xs := ml
    have mt' : Heap.IsTuple (Shared.heap ⟨hp.push { cls := .type "list_iterator", data := .fields #[.ref l, .int 0 0] }, g, d, tk, os⟩) t ys := Heap.IsTuple.push mt _
    wp_walk using wpAny_pyIter_list ml', wpAny_pyIter_tuple mt'
    exact ⟨_, rfl, h⟩
section
variable {pr : Program} {wo : World} {Ar : Around} {Ex : Value → Shared → Prop} {m : Shared}
theorem lt_call {l t : Addr} {xs ys : Array Value} {G : Value → Shared → Prop} (ml : m.heap.IsList l xs) (mt : m.heap.IsTuple t ys)
    (go : ∀ h', LTat h' (m.heap.objs.size + 4) (m.heap.objs.size + 2) (m.heap.objs.size + 3) m.heap.objs.size (m.heap.objs.size + 1) l t .none .none .none 0 0 →
      (∀ c o, m.heap.get? c = some o → h'.get? c = some o) → G (.ref (m.heap.objs.size + 4)) { m with heap := h' }) :
    wpAny (model pr wo) Ar (call (.type "zip") [.ref l, .ref t]) G Ex m := by
  refine callType_new F.called_zip (by decide) (F.typeCall_zip_2 _ _) (F.newCall_zip_2 _ _) (fun obj => F.args_object_init_3 obj _ _) F.entry_zip_new
    (lt_meets l t xs ys) ⟨ml, mt, ?_⟩
  have z1 : (ltH1 m.heap l).objs.size = m.heap.objs.size + 1 := Heap.size_push ..
  have z2 : (ltH2 m.heap l t).objs.size = m.heap.objs.size + 2 := by rw [Heap.size_push, z1]
  have z3 : (ltH3 m.heap l t).objs.size = m.heap.objs.size + 3 := by rw [Heap.size_push, z2]
  have z4 : (ltH4 m.heap l t).objs.size = m.heap.objs.size + 4 := by rw [Heap.size_push, z3]
  have g5 : (ltH5 m.heap l t).get? (ltH4 m.heap l t).objs.size = some _ := Heap.get?_push_size _ rfl
  have g4 : (ltH5 m.heap l t).get? (ltH3 m.heap l t).objs.size = some _ := Heap.get?_push_of_some _ (Heap.get?_push_size _ rfl)
  have g3 : (ltH5 m.heap l t).get? (ltH2 m.heap l t).objs.size = some _ := Heap.get?_push_of_some _ (Heap.get?_push_of_some _ (Heap.get?_push_size _ rfl))
  have g2 : (ltH5 m.heap l t).get? (ltH1 m.heap l).objs.size = some _ := Heap.get?_push_of_some _ (Heap.get?_push_of_some _ (Heap.get?_push_of_some _ (Heap.get?_push_size _ rfl)))
  have g1 : (ltH5 m.heap l t).get? m.heap.objs.size = some _ := Heap.get?_push_of_some _ (Heap.get?_push_of_some _ (Heap.get?_push_of_some _ (Heap.get?_push_of_some _ (Heap.get?_push_size _ rfl))))
  show _ ∧ _
  rw [z2, z3, z4] at g5
  rw [z1, z2] at g3
  rw [z3] at g4
  rw [z1] at g2
  rw [z4]
  exact ⟨⟨_, g5, rfl⟩, go _ ⟨g5, g3, g4, ⟨_, g1, rfl, rfl⟩, ⟨_, g2, rfl, rfl⟩⟩ fun c o x =>
    Heap.get?_push_of_some _ (Heap.get?_push_of_some _ (Heap.get?_push_of_some _ (Heap.get?_push_of_some _ (Heap.get?_push_of_some _ x))))⟩
end
/-- a list and a tuple, in new pairs -/
def Itlt (K : PySem.W.Frag) (l t : Addr) : It :=
  ⟨fun i H => ∃ (xs ys : List V) (x y : V), SqL K H l xs ∧ SqT K H t ys ∧ xs[i]? = some x ∧ ys[i]? = some y,
    fun i H v H' => ∃ b x y, v = .ref b ∧ H b = none ∧ H' = upd H b (.tup [x, y]) ∧ (∀ xs, SqL K H l xs → xs[i]? = some x) ∧ ∀ ys, SqT K H t ys → ys[i]? = some y,
    fun i H => ∃ xs ys : List V, SqL K H l xs ∧ SqT K H t ys ∧ (xs.length ≤ i ∨ ys.length ≤ i)⟩
theorem turn_lt {pr : Program} {wo : World} {K : PySem.W.Frag} {elts : List Expr} {kk : Nat} {tpos : Pos} {l t z u o p q : Addr} (D : ZipApart z u o p q l t) :
    Turn pr wo K (.Tuple elts kk tpos) (Itlt K l t) [z, u, o, p, q] z (fun i h => ∃ c d, LTat h z u o p q l t .none c d i i) where
  mem := by simp
  obj := fun i h ⟨x, y, st⟩ c hc => by
    obtain ⟨z0, u0, o0, ⟨o1, e1, _, d1⟩, ⟨o2, e2, _, d2⟩⟩ := st
    have e' : c = z ∨ c = u ∨ c = o ∨ c = p ∨ c = q := by simpa using hc
    rcases e' with r | r | r | r | r
    · rw [r]; exact ⟨_, z0, fun v q => nomatch q⟩
    · rw [r]; exact ⟨_, u0, fun v q => nomatch q⟩
    · rw [r]; exact ⟨_, o0, fun v q => nomatch q⟩
    · rw [r]; exact ⟨o1, e1, fun v q => by rw [d1] at q; cases q⟩
    · rw [r]; exact ⟨o2, e2, fun v q => by rw [d2] at q; cases q⟩
  keep := fun i h h' ⟨x, y, st⟩ k => ⟨x, y, k z (by simp) _ st.z0, k u (by simp) _ st.u0, k o (by simp) _ st.o0, st.p0.at fun o' r => k p (by simp) o' r, st.q0.at fun o' r => k q (by simp) o' r⟩
  item := by
    intro X hP hw hK hc i pins m σ H E I hf st hg
    subst hP hw hK
    obtain ⟨x0, y0, st⟩ := st
    obtain ⟨xs, ys, x, y, hqx, hqy, hx, hy⟩ := hg
    obtain ⟨its, rv, ml, _⟩ := I.list hqx
    obtain ⟨its2, rv2, mt, _⟩ := I.tuple hqy
    obtain ⟨u1, hu, ru⟩ := rv.get hx
    obtain ⟨u2, hu2, ru2⟩ := rv2.get hy
    have zl : z < m.heap.objs.size := Heap.lt_size st.z0
    refine lt_pyItem D st ml.isList mt (x := u1) (y := u2) (by simpa using hu) (by simpa using hu2) fun h' L' hT hsz hk => ?_
    refine ⟨_, rfl, wpAny_letOwnedTupleGo_zip (s := { m with heap := h' }) L'.z0 fun h'' z'' sb => ?_⟩
    have hT2 : h''.get? m.heap.objs.size = some { cls := .type "tuple", data := .seq #[u1, u2] } := (sb.2 _ (Nat.ne_of_gt zl)).trans hT
    have new : ObjOk X.prog X.w (upd H m.heap.objs.size (.tup [x, y])) h'' m.heap.objs.size (.tup [x, y]) :=
      ⟨by show 2 ≤ sizeLine; decide, [u1, u2], .cons ru (.cons ru2 .nil), ⟨_, hT2, rfl, _, rfl⟩⟩
    have I1 : Inv X pins σ (upd H m.heap.objs.size (.tup [x, y])) { m with heap := h'' } :=
      I.turnedNew (t' := m.toks) (ch := [z, u, o, p, q]) (fun c o' hb r => (sb.2 c (fun r' => hb (by simp [r']))).trans (hk c o' (fun r' => hb (by simp [r'])) (fun r' => hb (by simp [r'])) (fun r' => hb (by simp [r'])) (fun r' => hb (by simp [r'])) r)) hf (Nat.le_refl _) new
    refine ⟨.ref m.heap.objs.size, _, I1, rfl, ⟨_, x, y, rfl, I.hok.fresh (Nat.le_refl _), rfl, fun l' hl => by rw [I.list_inj hl hqx]; exact hx, fun l' hl => by rw [I.tuple_inj hl hqy]; exact hy⟩, ⟨u1, u2, z'', ?_, ?_, ?_, ?_⟩, fun c hcm => ?_⟩
    · exact (sb.2 _ D.TIz).trans L'.u0
    · exact (sb.2 _ D.TOz).trans L'.o0
    · exact L'.p0.at fun o' r => (sb.2 _ D.i1z).trans r
    · exact L'.q0.at fun o' r => (sb.2 _ D.i2z).trans r
    · have hlt : c < m.heap.objs.size := by
        have e' : c = z ∨ c = u ∨ c = o ∨ c = p ∨ c = q := by simpa using hcm
        rcases e' with r | r | r | r | r
        · rw [r]; exact zl
        · rw [r]; exact Heap.lt_size st.u0
        · rw [r]; exact Heap.lt_size st.o0
        · rw [r]; obtain ⟨_, e1, _⟩ := st.p0; exact Heap.lt_size e1
        · rw [r]; obtain ⟨_, e2, _⟩ := st.q0; exact Heap.lt_size e2
      rw [upd_ne (Nat.ne_of_lt hlt)]
      exact (hf c hcm).1
  done := by
    intro X hP hw hK hc i pins m σ H E I hf st hg
    subst hP hw hK
    obtain ⟨x0, y0, st⟩ := st
    obtain ⟨xs, ys, hqx, hqy, hend⟩ := hg
    obtain ⟨its, rv, ml, _⟩ := I.list hqx
    obtain ⟨its2, rv2, mt, _⟩ := I.tuple hqy
    have l1 := rv.length
    have l2 := rv2.length
    have he : its.toArray[i]? = none ∨ its2.toArray[i]? = none := by
      rcases hend with r | r
      · exact .inl (by simp; omega)
      · exact .inr (by simp; omega)
    exact lt_pyEnd (I.ok.hd hc) D st ml.isList mt he fun h' hk => ⟨rfl, I.turnedL (t' := m.toks) (ch := [z, u, o, p, q]) (fun c o' hb r =>
      hk c o' (fun r' => hb (by simp [r'])) (fun r' => hb (by simp [r'])) (fun r' => hb (by simp [r'])) (fun r' => hb (by simp [r'])) r) hf⟩
  self := fun A i m Q E ⟨x, y, st⟩ h => wpAny_pyIter_zip st.z0 h
/-- what is asked of zip(e, e2): two lists, two tuples, a list and a tuple -/
def iZipLT (K : PySem.W.Frag) (ta : TA) : TI := fun σ H R => ta σ H fun vs H1 => ∃ a b xs ys, vs = [.ref a, .ref b] ∧ SqL K H1 a xs ∧ SqT K H1 b ys ∧ R (Itlt K a b) H1
theorem pi_zipLT {X : Cx} {e e2 : Expr} {ta : TA} {p pos tpos : Pos} {elts : List Expr} {kk : Nat} (hg : Gl X "zip") (hm : X.mg "zip" = none) (ha : PA X [e, e2] ta)
    (hs : starEach [e, e2] X.env = (false, eval e X.env) :: starEach [e2] X.env := by rfl) (hpl : (backTo pos (starEach [e2] X.env)).any (·.1) = false := by rfl) :
    PI X (.Tuple elts kk tpos) (.Call (.Name "zip" p) [e, e2] [] pos) (iZipLT X.K ta) := by
  refine ⟨fun pins m σ H R I h => ?_⟩
  refine Call_ (ld_blt I hg hm PyProof.Rows.boot_zip (PyProof.Rows.callWith_type1 (thn (ha.run pos pins m σ H _ I h) fun us m1 ⟨vs, H1, I1, r1, q1⟩ => ?_) hs hpl))
  obtain ⟨a, b, xs, ys, ex, hqx, hqy, q⟩ := q1
  subst ex
  cases r1 with
  | cons r rr =>
    cases rr with
    | cons r' rr =>
      cases rr
      cases r
      cases r'
      have fresh5 : ∀ c, c ∈ [m1.heap.objs.size + 4, m1.heap.objs.size + 2, m1.heap.objs.size + 3, m1.heap.objs.size, m1.heap.objs.size + 1] → FpOk X pins H1 c := fun c hcm => by
        have e' : c = m1.heap.objs.size + 4 ∨ c = m1.heap.objs.size + 2 ∨ c = m1.heap.objs.size + 3 ∨ c = m1.heap.objs.size ∨ c = m1.heap.objs.size + 1 := by simpa using hcm
        have hle : m1.heap.objs.size ≤ c := by
          rcases e' with z | z | z | z | z <;> rw [z] <;> first | exact Nat.le_add_right _ _ | exact Nat.le_refl _
        exact I1.fpOk hle (I1.hok.fresh hle)
      obtain ⟨its, rv, ml, _⟩ := I1.list hqx
      obtain ⟨its2, rv2, mt, _⟩ := I1.tuple hqy
      obtain ⟨o2, ho2, _⟩ := id mt
      refine lt_call ml.isList mt fun h' L hk => wpAny_pyIter_zip L.z0 ?_
      have I2 : Inv X pins σ H1 { m1 with heap := h' } := I1.kept (t' := m1.toks) hk
      exact ⟨m1.heap.objs.size + 4, [m1.heap.objs.size + 4, m1.heap.objs.size + 2, m1.heap.objs.size + 3, m1.heap.objs.size, m1.heap.objs.size + 1], _, _, H1, rfl, I2, turn_lt (PySem.W.ktu_apart m1.heap.objs.size a b ml.lt (Heap.lt_size ho2)), ⟨_, _, L⟩, fresh5, q⟩
theorem Walk.zipLT {Γ : Gam} {I : Im} {a b : Addr} {vs us : List V} {ds es : List D} (h : SqL Γ.K I.G a vs) (r : Reps Γ I ds vs) (h2 : SqT Γ.K I.G b us) (r2 : Reps Γ I es us) : Walk Γ (Itlt Γ.K a b) I (zipD ds es) where
  go := fun H I' T i le w hi => by
    rw [zipD_len] at hi
    have h' := SqL.ext w.gh (SqL.ext le.gg h)
    have h2' := SqT.ext w.gh (SqT.ext le.gg h2)
    exact ⟨vs, us, vs[i]'(by rw [r.length]; omega), us[i]'(by rw [r2.length]; omega), h', h2', by simp, by simp⟩
  yld := fun H I' T i d x H' le w hd ⟨p, x1, y1, e1, e2, e3, k1, k2⟩ => by
    subst e1 e3
    obtain ⟨u, v, g1, g2, rfl⟩ := zipD_get hd
    obtain ⟨v1, q1, q2⟩ := r.get g1
    obtain ⟨v2, q3, q4⟩ := r2.get g2
    have z1 := k1 vs (SqL.ext w.gh (SqL.ext le.gg h))
    have z2 := k2 us (SqT.ext w.gh (SqT.ext le.gg h2))
    rw [q1] at z1; cases z1
    rw [q3] at z2; cases z2
    exact newTup w e2 (Reps.cons (q2.mono le) (Reps.cons (q4.mono le) Reps.nil))
  stop := fun H I' T i le w hi => by
    rw [zipD_len] at hi
    refine ⟨vs, us, SqL.ext w.gh (SqL.ext le.gg h), SqT.ext w.gh (SqT.ext le.gg h2), ?_⟩
    rw [r.length, r2.length]
    omega
def iZipM (a b : CE) : CI where
  ev := fun ρ T => (evD a.ev ρ T).bind fun x T1 => (evD b.ev ρ T1).bind fun y T2 => Ev.opt (match dLst x, y with
    | some xs, .tup ys => some (zipD xs ys)
    | _, _ => none) T2
  chk := fun k sc tg e => match e with
    | .Call (.Name x _) [y, y2] [] _ => decide (x = ("zip" : Str)) && (isTupE tg && (isGl sc.nm x && ((notStar y && notStar y2) && (a.chk k sc y && b.chk k sc y2))))
    | _ => false
  need := fun Γ => Γ.mg "zip" = none ∧ a.need Γ ∧ b.need Γ
  z := a.z || b.z
  ok := by
    intro Γ k W sc X tg e n g nd h hz
    split at h
    · rename_i x p y y2 pos
      obtain ⟨h1, h⟩ := b2 h
      obtain ⟨ht, h⟩ := b2 h
      obtain ⟨h2, h⟩ := b2 h
      obtain ⟨h4, h5⟩ := b2 h
      obtain ⟨h4, h4b⟩ := b2 h4
      obtain ⟨h5, h5b⟩ := b2 h5
      have hx := of_decide_eq_true h1
      subst hx
      have htg : ∃ elts kk tpos, tg = .Tuple elts kk tpos := by
        cases tg <;> first | exact ⟨_, _, _, rfl⟩ | cases ht
      obtain ⟨elts, kk, tpos, rfl⟩ := htg
      refine PI.mono (pi_zipLT (isGl_ok g.nm h2) (by rw [g.mg]; exact nd.1) (pa_cons (a.ok g nd.2.1 h5 (or1 hz).1) (pa_cons (b.ok g nd.2.2 h5b (or1 hz).2) pa_nil (star_cons h4b)) (star_cons h4)) (star_cons h4) (by rw [star_cons h4b]; rfl)) fun σ H R q => ?_
      obtain ⟨I, ρ, T, own, w, er, p⟩ := q
      refine ⟨I, ρ, T, own, w, er, Post.toD ((Post.bind (rel := relD Γ) backW p).imp fun x H1 q1 => ?_)⟩
      obtain ⟨r, T1, I1, _, x1, w1, r1, p1⟩ := q1
      refine ⟨I1, ρ, T1, own, w1, er.ext x1, Post.toD ((Post.bind (rel := relD Γ) backW p1).imp fun y H2 q2 => ?_)⟩
      obtain ⟨r2, T2, I2, _, x2, w2, r2', p2⟩ := q2
      obtain ⟨out, e1, k1⟩ := Post.opt p2
      cases ea : dLst r with
      | none => rw [ea] at e1; cases e1
      | some xs =>
        rw [ea] at e1
        have go : ∀ ys, r2 = .tup ys → some (zipD xs ys) = some out → ∃ (a b : Addr) (xs ys : List V), [x, y] = [.ref a, .ref b] ∧ SqL X.K H2 a xs ∧ SqT X.K H2 b ys ∧ R (Itlt X.K a b) H2 := by
          intro ys ey e3
          subst ey
          cases e3
          obtain ⟨l1, vs, rfl, h2, h3⟩ := dLst_ok ea (show Rep Γ I2 r x from Rep.mono x2.le r1)
          obtain ⟨l2, us, rfl, h6, h7⟩ := (show Rep Γ I2 (.tup _) y from r2').tup
          rw [g.K]
          exact ⟨l1, l2, vs, us, rfl, SqL.ext w2.gh h2, SqT.ext w2.gh h6, k1 _ H2 I2 Ext.refl w2 (Walk.zipLT h2 h3 h6 h7)⟩
        cases r2 with
        | tup ys => exact go ys rfl e1
        | _ => cases e1
    · cases h
  fs := fun {k sc tg e env} h x => by
    split at h
    · rfl
    · cases h
/-- zip of a list and a list or tuple -/
def zipS (x y : D) : Option (List D) := match dLst x, seqD y with
  | some xs, some ys => some (zipD xs ys)
  | _, _ => none
theorem evD_opt_split {α : Type} {o : Option α} {T : Cs} : (Ev.opt o T = .no ∧ o = none) ∨ ∃ a, o = some a ∧ Ev.opt o T = .ok a T := by
  cases o with
  | none => exact .inl ⟨rfl, rfl⟩
  | some a => exact .inr ⟨a, rfl, rfl⟩
def iZip3 (a b : CE) : CI where
  ev := fun ρ T => (evD a.ev ρ T).bind fun x T1 => (evD b.ev ρ T1).bind fun y T2 => Ev.opt (zipS x y) T2
  chk := (iZip2 a b).chk
  need := (iZip2 a b).need
  z := (iZip2 a b).z
  ok := by
    intro Γ k W sc X tg e n g nd h hz
    refine PI.mono (PI.orI ((iZipM a b).ok (tg := tg) (n := n) g nd h hz) ((iZip2 a b).ok (tg := tg) (n := n) g nd h hz)) fun σ H R q => ?_
    obtain ⟨I, ρ, T, own, w, er, p⟩ := q
    have p' : Post Γ (relW Γ) W σ H I ((evD a.ev ρ T).bind fun x T1 => (evD b.ev ρ T1).bind fun y T2 => Ev.opt (zipS x y) T2) R := p
    have right : ((evD a.ev ρ T).bind fun x T1 => (evD b.ev ρ T1).bind fun y T2 => Ev.opt (zipS x y) T2) = (iZip2 a b).ev ρ T → tW Γ n W (iZip2 a b).ev σ H R := fun e => ⟨I, ρ, T, own, w, er, by rw [← e]; exact p'⟩
    cases e0 : evD a.ev ρ T with
    | no => rw [e0] at p'; exact p'.elim
    | ex y T1 => exact .inr (right (by show _ = (evD a.ev ρ T).bind _; rw [e0]; rfl))
    | ok x T1 =>
      cases e2 : evD b.ev ρ T1 with
      | no => rw [e0] at p'; have p2 : Post Γ (relW Γ) W σ H I ((evD b.ev ρ T1).bind fun y T2 => Ev.opt (zipS x y) T2) R := p'; rw [e2] at p2; exact p2.elim
      | ex y T2 => exact .inr (right (by show _ = (evD a.ev ρ T).bind _; rw [e0]; show (evD b.ev ρ T1).bind _ = (evD b.ev ρ T1).bind _; rw [e2]; rfl))
      | ok y T2 =>
        cases y with
        | tup ys =>
          refine .inl ⟨I, ρ, T, own, w, er, ?_⟩
          have goal : (iZipM a b).ev ρ T = (evD a.ev ρ T).bind fun x T1 => (evD b.ev ρ T1).bind fun y T2 => Ev.opt (zipS x y) T2 := by
            show (evD a.ev ρ T).bind _ = (evD a.ev ρ T).bind _
            rw [e0]
            show (evD b.ev ρ T1).bind _ = (evD b.ev ρ T1).bind _
            rw [e2]
            show Ev.opt _ T2 = Ev.opt _ T2
            unfold zipS
            cases dLst x <;> rfl
          rw [goal]
          exact p'
        | _ =>
          refine .inr (right ?_)
          show _ = (evD a.ev ρ T).bind _
          rw [e0]
          show (evD b.ev ρ T1).bind _ = (evD b.ev ρ T1).bind _
          rw [e2]
          rfl
  fs := (iZip2 a b).fs
end Tp
end
section
set_option Elab.async false
set_option linter.all false
set_option maxRecDepth 100000
set_option maxHeartbeats 2000000
/-! TqI: y = x.pop(). -/
namespace Tp
open PySem PySem.Spec PyProof.Rows L2

/-- what y and x are after y = x.pop() -/
def popL (j i : Nat) (ρ : Env) (xs : List D) : Option Env :=
  if j < ρ.length then (xs[xs.length - 1]?).map fun y => (ρ.set i (some (.ow xs.dropLast))).set j (some (.sh y)) else none
def popLK (j i : Nat) (ρ : Env) (T : Cs) (o : Option (Option LV)) : Ev Fl := match o with
  | some (some (.ow xs)) => (match popL j i ρ xs with
    | some ρ' => .ok (.nx ρ') T
    | none => .no)
  | _ => .no
/-- y = x.pop() -/
def sPopLast (j i : Nat) : C1 where
  ev := fun ρ T => popLK j i ρ T (ρ[i]?)
  chk := fun _ sc st => match st with
    | .Assign [.Name y py] (.Call (.Attribute (.Name x xp) m ap) [] [] cp) _ => decide (m = ("pop" : Str)) && (okStore sc j y && (noSwap sc.nm y py (.Call (.Attribute (.Name x xp) m ap) [] [] cp) && ((ap.endLine == cp.line) && isVar sc i x)))
    | _ => false
  need := fun _ => True
  ok := by
    intro Γ k W sc X st g nd h
    split at h
    · rename_i y py x xp m ap cp pos
      obtain ⟨h1, h⟩ := b2 h
      obtain ⟨h5, h⟩ := b2 h
      obtain ⟨h6, h⟩ := b2 h
      obtain ⟨hl, h2⟩ := b2 h
      have hm := of_decide_eq_true h1
      subst hm
      obtain ⟨s1, s2, s3⟩ := okStore_ok g h5
      have hs : swapsWith (.Call (.Attribute (.Name x xp) ("pop" : Str) ap) [] [] cp) (some (.Name y py)) pos.line X.env = pure false := noSwap_ok g.fk (by rw [g.nm]; exact h6) _
      refine PS.mono (ps_set (i := j) g.nd s1 s2 (pe_bm0 PySem.F.plainAttrs_list PySem.F.slot_list_pop PySem.F.type_list_pop mt_pop (isVar_ok g h2) (by rfl) hl) hs s3) fun D σ H q => ?_
      obtain ⟨I, ρ, T, own, w, er, p⟩ := q
      have p' : PostS Γ X.s_0.heap.objs.size W D (Ow own) H I (popLK j i ρ T (ρ[i]?)) := p
      cases e1 : ρ[i]? with
      | none => rw [e1] at p'; exact p'.elim
      | some o =>
        rw [e1] at p'
        cases o with
        | none => exact p'.elim
        | some lv =>
          cases lv with
          | ow xs =>
            obtain ⟨b, vs, o1, o2, o3, o4⟩ := own_list er e1
            have p2 : PostS Γ X.s_0.heap.objs.size W D (Ow own) H I (match popL j i ρ xs with
              | some ρ' => .ok (.nx ρ') T
              | none => .no) := p'
            cases e2 : popL j i ρ xs with
            | none => rw [e2] at p2; exact p2.elim
            | some ρ' =>
              rw [e2] at p2
              unfold popL at e2
              split at e2
              · rename_i c3
                obtain ⟨y', e3, e4⟩ := Option.map_eq_some_iff.mp e2
                subst e4
                obtain ⟨u, u1, u2⟩ := o4.get e3
                rw [← o4.length] at u1
                refine ⟨_, o2, .inl ⟨rfl, _, SqL.of o3⟩, ?_⟩
                refine ⟨b, vs, u, rfl, rfl, o3, u1, ?_⟩
                have af := write_aft er Ext.refl w e1 o1 o2 (lv' := .ow xs.dropLast) ⟨b, _, rfl, rfl, upd_same, o4.dropLast⟩
                obtain ⟨own', af2⟩ := store_aft (lv := .sh y') (v := u) (as := []) (i := j) af.er (by rw [List.length_set]; exact c3) Ext.refl af.wf ⟨rfl, u2⟩ (fun _ hz => by cases hz)
                exact p2 _ _ _ _ (af.trans af2)
              · cases e2
          | _ => exact p'.elim
    · cases h
end Tp
end
section
set_option Elab.async false
set_option linter.all false
set_option maxRecDepth 100000
set_option maxHeartbeats 2000000
/-! TqJ: x = y, where y's own list goes over to x. -/
namespace Tp
open PySem PySem.Spec PyProof.Rows L2
theorem ER.drop {Γ : Gam} {n : Nat} {σ : L2.St} {ρ : Env} {H : Hp} {I : Im} {own : Nat → List Addr} (r : ER Γ n σ ρ H I own) (j : Nat) :
    ER Γ n σ (ρ.set j none) H I (fun k => if k = j then [] else own k) := by
  refine ⟨by rw [List.length_set]; exact r.len, fun k lv e => ?_, fun k e => ?_, fun k a ha => ?_, fun k k' a h1 h2 => ?_⟩
  · by_cases q : j = k
    · subst q
      by_cases hl : j < ρ.length
      · rw [List.getElem?_set_self hl] at e; cases e
      · rw [List.getElem?_eq_none (by rw [List.length_set]; omega)] at e; cases e
    · rw [List.getElem?_set_ne q] at e
      rw [if_neg (Ne.symm q)]
      exact r.at_ k lv e
  · by_cases q : k = j
    · rw [if_pos q]
    · rw [if_neg q]
      refine r.dead k fun lv e2 => e lv ?_
      rw [List.getElem?_set_ne (Ne.symm q)]
      exact e2
  · split at ha
    · cases ha
    · exact r.free k a ha
  · split at h1
    · cases h1
    · split at h2
      · cases h2
      · exact r.disj k k' a h1 h2
def movK (i j : Nat) (ρ : Env) (T : Cs) (o : Option (Option LV)) : Ev Fl := match o with
  | some (some (.ow xs)) => if i < ρ.length then .ok (.nx ((ρ.set j none).set i (some (.ow xs)))) T else .no
  | _ => .no
/-- x = y -/
def sMove (i j : Nat) : C1 where
  ev := fun ρ T => movK i j ρ T (ρ[j]?)
  chk := fun _ sc st => match st with
    | .Assign [.Name x px] (.Name y py) _ => okStore sc i x && (noSwap sc.nm x px (.Name y py) && isVar sc j y)
    | _ => false
  need := fun _ => True
  ok := by
    intro Γ k W sc X st g nd h
    split at h
    · rename_i x px y py pos
      obtain ⟨h5, h⟩ := b2 h
      obtain ⟨h6, h2⟩ := b2 h
      obtain ⟨s1, s2, s3⟩ := okStore_ok g h5
      have hs : swapsWith (.Name y py) (some (.Name x px)) pos.line X.env = pure false := noSwap_ok g.fk (by rw [g.nm]; exact h6) _
      refine PS.mono (ps_set (i := i) g.nd s1 s2 (isVar_ok g h2) hs s3) fun D σ H q => ?_
      obtain ⟨I, ρ, T, own, w, er, p⟩ := q
      have p' : PostS Γ X.s_0.heap.objs.size W D (Ow own) H I (movK i j ρ T (ρ[j]?)) := p
      cases e1 : ρ[j]? with
      | none => rw [e1] at p'; exact p'.elim
      | some o =>
        rw [e1] at p'
        cases o with
        | none => exact p'.elim
        | some lv =>
          cases lv with
          | ow xs =>
            have p2 : PostS Γ X.s_0.heap.objs.size W D (Ow own) H I (if i < ρ.length then .ok (.nx ((ρ.set j none).set i (some (.ow xs)))) T else .no) := p'
            split at p2
            · rename_i hi
              obtain ⟨v, o2, q2⟩ := er.at_ j _ e1
              refine ⟨v, o2, ?_⟩
              have er2 := (er.drop j).set (i := i) (O := O0) (by rw [List.length_set]; exact hi) Ext.refl (fun _ _ _ _ z => z) q2 (fun a ha => er.free j a ha) (fun k a hk ha hz => by
                split at hz
                · cases hz
                · rename_i hkj; exact hkj (er.disj k j a hz ha))
              refine p2 _ H I _ ⟨Ext.refl, w, er2, fun a ⟨k, ha⟩ => .inl ?_⟩
              have ha' : a ∈ (if k = i then own j else if k = j then [] else own k) := ha
              split at ha'
              · exact ⟨j, ha'⟩
              · split at ha'
                · cases ha'
                · exact ⟨k, ha'⟩
            · exact p2.elim
          | _ => exact p'.elim
    · cases h
end Tp
end
section
set_option Elab.async false
set_option linter.all false
set_option maxRecDepth 100000
set_option maxHeartbeats 2000000
/-! TqK: dicts: {}, d[k], d[k] = v, len, sorted, walked; what is shared is locked. -/
namespace Tp
open PySem PySem.Spec PyProof.Rows L2

/-! ### lists of pairs -/
def getK (kvs : List (Key × D)) (k : Key) : Option D := (kvs.find? fun kv => decide (kv.1 = k)).map (·.2)
def putD (kvs : List (Key × D)) (k : Key) (d : D) : List (Key × D) :=
  if kvs.any fun kv => decide (kv.1 = k) then kvs.map fun kv => if kv.1 = k then (kv.1, d) else kv else kvs ++ [(k, d)]
section
variable {Γ : Gam} {I : Im}
theorem RepK.nil : RepK Γ I [] [] := by simp only [RepK]
theorem RepK.cons {k : Key} {d : D} {kvs : List (Key × D)} {v : V} {us : List (Key × V)} (h : Rep Γ I d v) (r : RepK Γ I kvs us) : RepK Γ I ((k, d) :: kvs) ((k, v) :: us) := by
  simp only [RepK]; exact ⟨v, us, rfl, h, r⟩
theorem RepK.keys : ∀ {kvs : List (Key × D)} {us : List (Key × V)}, RepK Γ I kvs us → us.map (·.1) = kvs.map (·.1)
  | [], _, h => by simp only [RepK] at h; rw [h]; rfl
  | x :: kvs, _, h => by
    simp only [RepK] at h
    obtain ⟨v, r, rfl, _, h2⟩ := h
    rw [List.map_cons, List.map_cons, h2.keys]
theorem RepK.length {kvs : List (Key × D)} {us : List (Key × V)} (h : RepK Γ I kvs us) : us.length = kvs.length := by
  have := congrArg List.length h.keys
  rwa [List.length_map, List.length_map] at this
theorem RepK.get : ∀ {kvs : List (Key × D)} {us : List (Key × V)} {k : Key} {d : D}, RepK Γ I kvs us → getK kvs k = some d → ∃ v, valV us k = some v ∧ Rep Γ I d v
  | [], _, _, _, _, e => by cases e
  | x :: kvs, _, k, d, h, e => by
    simp only [RepK] at h
    obtain ⟨v, r, rfl, h1, h2⟩ := h
    by_cases c : x.1 = k
    · have : getK (x :: kvs) k = some x.2 := by unfold getK; rw [List.find?_cons, decide_eq_true c]; rfl
      rw [this] at e
      cases e
      exact ⟨v, valV_pos c, h1⟩
    · have : getK (x :: kvs) k = getK kvs k := by unfold getK; rw [List.find?_cons, decide_eq_false c]
      rw [this] at e
      obtain ⟨u, e1, e2⟩ := h2.get e
      exact ⟨u, by rw [valV_neg c]; exact e1, e2⟩
theorem RepK.any {kvs : List (Key × D)} {us : List (Key × V)} (h : RepK Γ I kvs us) (k : Key) : (us.any fun kv => decide (kv.1 = k)) = kvs.any fun kv => decide (kv.1 = k) := by
  have e1 : (us.any fun kv => decide (kv.1 = k)) = (us.map (·.1)).any fun x => decide (x = k) := by rw [List.any_map]; rfl
  have e2 : (kvs.any fun kv => decide (kv.1 = k)) = (kvs.map (·.1)).any fun x => decide (x = k) := by rw [List.any_map]; rfl
  rw [e1, e2, h.keys]
theorem RepK.repl (k : Key) {d : D} {v : V} (hv : Rep Γ I d v) : ∀ {kvs : List (Key × D)} {us : List (Key × V)}, RepK Γ I kvs us → RepK Γ I (kvs.map fun kv => if kv.1 = k then (kv.1, d) else kv) (us.map fun kv => if kv.1 = k then (kv.1, v) else kv)
  | [], _, h => by simp only [RepK] at h; subst h; exact RepK.nil
  | x :: kvs, _, h => by
    simp only [RepK] at h
    obtain ⟨u, r, rfl, h1, h2⟩ := h
    rw [List.map_cons, List.map_cons]
    by_cases c : x.1 = k
    · rw [if_pos c, if_pos c]; exact RepK.cons hv (RepK.repl k hv h2)
    · rw [if_neg c, if_neg c]; exact RepK.cons h1 (RepK.repl k hv h2)
theorem RepK.snoc (k : Key) {d : D} {v : V} (hv : Rep Γ I d v) : ∀ {kvs : List (Key × D)} {us : List (Key × V)}, RepK Γ I kvs us → RepK Γ I (kvs ++ [(k, d)]) (us ++ [(k, v)])
  | [], _, h => by simp only [RepK] at h; subst h; exact RepK.cons hv RepK.nil
  | x :: kvs, _, h => by
    simp only [RepK] at h
    obtain ⟨u, r, rfl, h1, h2⟩ := h
    exact RepK.cons h1 (RepK.snoc k hv h2)
theorem RepK.put {kvs : List (Key × D)} {us : List (Key × V)} (h : RepK Γ I kvs us) (k : Key) {d : D} {v : V} (hv : Rep Γ I d v) : RepK Γ I (putD kvs k d) (putK us k v) := by
  unfold putD putK
  rw [h.any k]
  split
  · exact RepK.repl k hv h
  · exact RepK.snoc k hv h
end
def kI (i : Int) : Key := .inl i

/-! ### {} -/
def isDnew : Expr → Bool
  | .Dict [] [] _ => true
  | _ => false
def cDnew : CE where
  ev := fun _ T => .ok (.v (.od [])) T
  chk := fun _ _ e => isDnew e
  need := fun _ => True
  z := false
  ok := by
    intro Γ k W sc X e n g nd h hz
    unfold isDnew at h
    split at h
    · refine PE.mono pe_dnewK fun σ H Q q p hp => ?_
      obtain ⟨I, ρ, T, own, w, er, pp⟩ := q
      refine pp _ _ I (Ext.new hp _) (w.new hp _) ⟨[p], ⟨p, [], rfl, rfl, upd_same, RepK.nil⟩, fun a ha => ?_⟩
      have e : a = p := by simpa using ha
      subst e
      exact ⟨w.gnone hp, w.nocell hp, by rw [upd_same]; simp, hp⟩
    · cases h

/-! ### what is shared is locked -/
def tLockP (t : TE) : TE := fun σ H Q => t σ H fun x H1 => Q x H1 ∨ ∃ d u, x = .ref d ∧ H1 d = some u ∧ Mut (some u) ∧ ∀ od, Q x (upd H1 d (.frz od u))
theorem pe_lockP {X : Cx} {e : Expr} {t : TE} (h : PE X e t) : PE X e (tLockP t) := by
  refine ⟨fun pins s σ H Q I hw => ?_⟩
  refine thn (h.run pins s σ H _ I hw) fun v s1 ⟨x, H1, I1, r, q⟩ => ?_
  rcases q with q | ⟨d, u, rfl, hd, mu, q⟩
  · exact ⟨x, H1, I1, r, q⟩
  · obtain ⟨od, I2⟩ := I1.lock hd mu
    exact ⟨_, _, I2, r, q od⟩
def lockR : R → Option R
  | .v (.od kvs) => some (.v (.sh (.dct kvs)))
  | .v (.sh (.dct kvs)) => some (.v (.sh (.dct kvs)))
  | _ => none
def cLock (a : CE) : CE where
  ev := fun ρ T => (a.ev ρ T).bind fun r T1 => Ev.opt (lockR r) T1
  chk := a.chk
  need := a.need
  z := a.z
  ok := by
    intro Γ k W sc X e n g nd h hz
    refine PE.mono (pe_lockP (a.ok g nd h hz)) fun σ H Q q => ?_
    obtain ⟨I, ρ, T, own, w, er, p⟩ := q
    refine ⟨I, ρ, T, own, w, er, (Post.step (rel := RepR Γ n own) p Ext.refl).imp fun x H1 q1 => ?_⟩
    obtain ⟨r, T1, I1, _, x1, w1, r1, p1⟩ := q1
    obtain ⟨r', e1, k1⟩ := Post.opt p1
    unfold lockR at e1
    split at e1
    · cases e1
      obtain ⟨as, ⟨b, us, rfl, rfl, h2, h3⟩, h4⟩ := r1
      obtain ⟨g1, g2, g3, g4⟩ := h4 b (by simp)
      refine .inr ⟨b, _, rfl, h2, trivial, fun od => ?_⟩
      have le : Im.Le I1 ⟨upd I1.G b (.frz od (.dK us)), I1.κ, I1.me⟩ := Im.Le.frz g1
      refine k1 _ _ ⟨upd I1.G b (.frz od (.dK us)), I1.κ, I1.me⟩ ((x1.wr g4).frz g4 g1) ((w1.write g1 g2).freeze upd_same g1 g2) (.sh ?_)
      simp only [Rep]
      exact ⟨b, od, us, rfl, upd_same, h3.mono le⟩
    · cases e1
      exact .inl (k1 _ _ _ x1 w1 r1)
    · cases e1

/-! ### d[k] -/
def fDget (x y : R) : Option R := match x, y with
  | .v (.sh (.dct kvs)), .v (.sh (.int i)) => (getK kvs (kI i)).map fun d => .v (.sh d)
  | _, _ => none
def cDget (a b : CE) : CE where
  ev := fun ρ T => (a.ev ρ T).bind fun x T1 => (b.ev ρ T1).bind fun y T2 => Ev.opt (fDget x y) T2
  chk := fun k sc e => match e with
    | .Subscript x y _ => notSlice y && (a.chk k sc x && b.chk k sc y)
    | _ => false
  need := fun Γ => a.need Γ ∧ b.need Γ
  z := a.z || b.z
  ok := by
    intro Γ k W sc X e n g nd h hz
    split at h
    · obtain ⟨h0, h⟩ := b2 h
      obtain ⟨h2, h3⟩ := b2 h
      refine PE.mono (pe_dget (by have := g.room.un; omega) (a.ok g nd.1 h2 (or1 hz).1) (b.ok g nd.2 h3 (or1 hz).2) (notSlice_ok h0)) fun σ H Q q => ?_
      obtain ⟨I, ρ, T, own, w, er, p⟩ := q
      refine ⟨I, ρ, T, own, w, er, (Post.bind (rel := RepR Γ n own) backR p).imp fun x H1 q1 => ?_⟩
      obtain ⟨r, T1, I1, _, x1, w1, r1, p1⟩ := q1
      refine ⟨I1, ρ, T1, own, w1, er.ext x1, (Post.bind (rel := RepR Γ n own) backR p1).imp fun y H2 q2 => ?_⟩
      obtain ⟨r2, T2, I2, _, x2, w2, r2', p2⟩ := q2
      obtain ⟨r3, e3, p3⟩ := Post.opt p2
      unfold fDget at e3
      split at e3
      · obtain ⟨d, e4, rfl⟩ := Option.map_eq_some_iff.mp e3
        have hx := (r1.ext x2).unsh
        simp only [Rep] at hx
        obtain ⟨b, o, us, rfl, hb, hk⟩ := hx
        obtain ⟨v, e5, rv⟩ := hk.get e4
        rw [r2'.unsh.int]
        exact ⟨b, v, rfl, .inl ⟨us, kI _, .inr ⟨o, w2.gh _ _ hb⟩, rfl, e5.symm⟩, give_val w2 rv p3⟩
      · cases e3
    · cases h

/-! ### len(d) -/
def gLenD (a : R) : Option R := match a with
  | .v (.sh (.dct kvs)) => some (rI kvs.length)
  | _ => none
theorem cr_lenD {X : Cx} : CallR X (.builtin "len") (fun xs H Q => ∃ a kvs, xs = [V.ref a] ∧ Rd H a (.dK kvs) ∧ Q (.int kvs.length) H) := by
  intro pins s σ H xs us Q I r q
  obtain ⟨a, kvs, rfl, e, q⟩ := q
  obtain rfl := Vals.ref1 r
  exact d_len I e fun t s' I' => ⟨.int kvs.length, H, I', ⟨t, rfl⟩, q⟩
def bLenD : Blt := bltF "len" "len" (f1 gLenD) PySem.boot_len fun {Γ k W sc X n} g => by
  refine CallR.mono cr_lenD (rdN_one (fun _ _ => f1_one) fun H I T own Hs a c x Q w ra e q => ?_)
  have e1 : gLenD a = some c := e
  unfold gLenD at e1
  split at e1
  · cases e1
    have hx := ra.unsh
    simp only [Rep] at hx
    obtain ⟨b, o, us, rfl, hb, hk⟩ := hx
    refine ⟨b, us, rfl, .inr ⟨o, w.gh _ _ hb⟩, ?_⟩
    rw [hk.length]
    exact give_val w .ofInt q
  · cases e1

/-! ### sorted(d) -/
def intK : List (Key × D) → Option (List Int)
  | [] => some []
  | (.inl i, _) :: r => (intK r).map fun l => i :: l
  | _ => none
theorem intK_ok : ∀ {kvs : List (Key × D)} {ns : List Int}, intK kvs = some ns → kvs.map (·.1) = ns.map Sum.inl
  | [], _, e => by cases e; rfl
  | (.inl i, _) :: r, _, e => by
    obtain ⟨l, e1, rfl⟩ := Option.map_eq_some_iff.mp (show (intK r).map (fun l => i :: l) = _ from e)
    rw [List.map_cons, List.map_cons, intK_ok e1]
  | (.inr _, _) :: _, _, e => by cases e
def gSortD (a : R) : Option R := match a with
  | .v (.sh (.dct kvs)) => (intK kvs).bind fun ns => if ns.length < 64 then some (rL ((srtI ns).map .int)) else none
  | _ => none
def bSortD : Blt := bltF "sorted" "sorted" (f1 gSortD) PyProof.Rows.boot_sorted fun {Γ k W sc X n} g => by
  refine CallR.mono (call_sortedDI g.calm) (rdN_one (fun _ _ => f1_one) fun H I T own Hs a c x Q w ra e q => ?_)
  have e1 : gSortD a = some c := e
  unfold gSortD at e1
  split at e1
  · obtain ⟨ns, e2, e3⟩ := Option.bind_eq_some_iff.mp e1
    split at e3
    · rename_i h64
      cases e3
      have hx := ra.unsh
      simp only [Rep] at hx
      obtain ⟨b, o, us, rfl, hb, hk⟩ := hx
      refine ⟨b, us, ns, rfl, .inr ⟨o, w.gh _ _ hb⟩, by rw [hk.keys]; exact intK_ok e2, h64, fun ys p hp hs hb => ?_⟩
      rw [srtI_eq hp hs]
      exact give_list w (reps_ints _) q p hb
    · cases e3
  · cases e1

/-! ### for k in d -/
def keyD : Key → D
  | .inl i => .int i
  | .inr s => .str s
theorem keyD_rep {Γ : Gam} {I : Im} : ∀ k : Key, Rep Γ I (keyD k) (kV k)
  | .inl i => .ofInt
  | .inr s => .ofStr
theorem Walk.keys {Γ : Gam} {I : Im} {a : Addr} {o : Obj} {us : List (Key × V)} (h : I.G a = some (.frz o (.dK us))) : Walk Γ (Itk a o us) I (us.map fun kv => keyD kv.1) where
  go := fun H I' T i le w hi => ⟨w.gh _ _ (le.gg _ _ h), by rwa [List.length_map] at hi⟩
  yld := fun H I' T i d x H' le w hd ⟨e, k, v, e1, e2⟩ => by
    subst e
    rw [List.getElem?_map, e1] at hd
    cases hd
    rw [e2]
    exact ⟨I', Ext.refl, w, keyD_rep k⟩
  stop := fun H I' T i le w hi => ⟨w.gh _ _ (le.gg _ _ h), by rwa [List.length_map] at hi⟩
def iDK (a : CE) : CI where
  ev := fun ρ T => (evD a.ev ρ T).bind fun d T1 => Ev.opt (match d with
    | .dct kvs => some (kvs.map fun kv => keyD kv.1)
    | _ => none) T1
  chk := fun k sc _ e => notSetL e && a.chk k sc e
  need := a.need
  z := a.z
  ok := by
    intro Γ k W sc X tg e n g nd h hz
    refine PI.mono (pi_keys (a.ok g nd (b2 h).2 hz)) fun σ H R q => ?_
    obtain ⟨I, ρ, T, own, w, er, p⟩ := q
    refine ⟨I, ρ, T, own, w, er, Post.toD ((Post.bind (rel := relD Γ) backW p).imp fun x H1 q1 => ?_)⟩
    obtain ⟨d, T1, I1, _, x1, w1, r1, p1⟩ := q1
    obtain ⟨ds, e1, k1⟩ := Post.opt p1
    split at e1
    · rename_i kvs _
      cases e1
      have hx : Rep Γ I1 (.dct kvs) x := r1
      simp only [Rep] at hx
      obtain ⟨b, o, us, rfl, hb, hk⟩ := hx
      refine ⟨b, o, rfl, .inl ⟨us, w1.gh _ _ hb, ?_⟩⟩
      have wk := Walk.keys (Γ := Γ) (I := I1) hb
      have e4 : (us.map fun kv => keyD kv.1) = kvs.map fun kv => keyD kv.1 := by
        have := congrArg (List.map keyD) hk.keys
        rwa [List.map_map, List.map_map] at this
      rw [e4] at wk
      exact k1 _ H1 I1 Ext.refl w1 wk
    · cases e1
  fs := fun h => notSetL_ok (b2 h).1
end Tp
end
section
set_option Elab.async false
set_option linter.all false
set_option maxRecDepth 100000
set_option maxHeartbeats 2000000
/-! TqL: sorted(d, reverse=True), d[k] = v. -/
namespace L2
open PySem PySem.Spec PyProof.Rows
section
variable {X : Cx}
theorem ints_eachL : ∀ {us : List Value} {ks : List Int}, us.length = ks.length → (∀ (j : Nat) (v : Value), us[j]? = some v → ∃ x t, ks[j]? = some x ∧ v = .int x t) → IntsAre us ks
  | [], [], _, _ => .nil
  | u :: us, k :: ks, hl, h => by
    obtain ⟨x, t, e1, e2⟩ := h 0 u rfl
    have e1' : k = x := Option.some.inj e1
    subst e1'
    subst e2
    refine .cons _ _ (ints_eachL (by simpa using hl) fun j v e => ?_)
    obtain ⟨x, t, a, b⟩ := h (j + 1) v (by simpa using e)
    exact ⟨x, t, by simpa using a, b⟩
  | [], _ :: _, hl, _ => by simp at hl
  | _ :: _, [], hl, _ => by simp at hl
def rSortDRev : List V → List V → Hp → VK → Prop := fun vs zs H Q => ∃ (a : Addr) (kvs : List (Key × V)) (ks : List Int), vs = [V.ref a] ∧ zs = [.bl true] ∧ Rd H a (.dK kvs) ∧ kvs.map (·.1) = ks.map Sum.inl ∧ ks.length < 64 ∧
  ∀ (ys : List Int) (p : Addr), ys.Perm ks → ys.Pairwise (· ≥ ·) → H p = none → Q (.ref p) (upd H p (.lst (ys.map V.int)))
/-- sorted(d, reverse=True) of a dict with fewer than 64 keys, all ints -/
theorem cr_sortedDRev (hcalm : X.calm = true) : CallRK X (.builtin "sorted") [Str.ofString "reverse"] rSortDRev := by
  intro pins s σ H xs zs us ws Q I r rz q
  obtain ⟨a, kvs, ks, rfl, rfl, hd, hks, h64, q⟩ := q
  obtain rfl := Vals.ref1 r
  obtain ⟨w1, rfl, e1⟩ := vals1 rz
  obtain rfl : w1 = Value.bool true := e1
  obtain ⟨z, lo, vs, rel, dd⟩ := dk_rd I.hok hd
  obtain ⟨ep, hat⟩ := dd.dictAt
  have hkeys : vs.map (·.1) = ks.map Sum.inl := rel.keys.symm.trans hks
  have hl : vs.length = ks.length := by
    have e := congrArg List.length hkeys
    rw [List.length_map, List.length_map] at e
    exact e
  have h16 : vs.length ≤ sizeLine := by rw [hl, sizeLine_eq]; omega
  show wpAny _ _ (call (.builtin "sorted") [.ref a] [(Str.ofString "reverse", .bool true)]) _ _ _
  refine PyProof.Rows.call_function_entry_kw PyProof.Rows.kind_sorted PyProof.Rows.plain_sorted PyProof.Rows.entry_sorted (PyProof.Rows.args_sorted_rev _ _) ?_
  unfold Builtin.«sorted»
  refine wpAny_bind (m := checkCount "sorted" 1 1 _) (wpAny_pure ?_)
  refine wpAny_bind (PySem.W.kdu_collect (A := X.A.in1) (PySem.W.kdl_dict (knd := mixKind X.prog X.w) (kvs := vs) (ep := ep) lo) (I.ok.hd hcalm) hat h16 fun h' tk acc hk hacc => ?_)
  have hal : acc.toList.length = ks.length := by rw [Array.length_toList, hacc.1, hl]
  have hS : IntsAre acc.toList ks := ints_eachL hal fun j v e => by
    obtain ⟨k, x, e1, e2⟩ := hacc.2 j v (by rw [← Array.getElem?_toList]; exact e)
    have e3 : (vs.map (·.1))[j]? = some k := by rw [List.getElem?_map, e1]; rfl
    rw [hkeys, List.getElem?_map] at e3
    cases e4 : ks[j]? with
    | none => rw [e4] at e3; cases e3
    | some y =>
      rw [e4] at e3
      have e5 : Sum.inl y = k := Option.some.inj e3
      subst e5
      rcases keyIs_shape (show keyIs (Sum.inl y) v = true from e2) with ⟨i, t, ek, ev⟩ | ⟨z, t, ek, ev⟩
      · cases ek
        exact ⟨y, t, rfl, ev⟩
      · cases ek
  have I1 : Inv X pins σ H { s with heap := h', toks := tk } := I.kept hk
  refine wpAny_bind (wpAny_newList ?_ (by rw [hal, sizeLine_eq]; omega))
  have hoL : (h'.push (seqObj "list" acc.toList.toArray 0)).get? h'.objs.size = some (seqObj "list" acc.toList.toArray 0) := Heap.get?_push_size _ rfl
  show wpAny _ _ _ _ _ { s with heap := h'.push (seqObj "list" acc.toList.toArray 0), toks := tk }
  refine wpAny_bind (wpAny_holding (PyProof.Rows.wpAny_call_entry_kw PyProof.Rows.slot_list_sort ⟨_, hoL, rfl⟩ PyProof.Rows.entry_list_sort
    (PyProof.Rows.list_sort_tree_rev (s := { s with heap := h'.push (seqObj "list" acc.toList.toArray 0), toks := tk }) hoL hS (by rw [hal]; exact h64) fun out ys g1 g2 g3 => ⟨_, rfl, ?_⟩) (PyProof.Rows.args_list_sort_rev _ _)))
  obtain ⟨e', he'⟩ := PyProof.Rows.sortedHeap_at (vs := acc.toList) (out := out) hoL
  have hlen : (ys.map V.int).length ≤ sizeLine := by
    rw [List.length_map, g2.length_eq]
    exact Nat.le_trans (Nat.le_of_lt h64) (by decide)
  refine wpAny_pure ⟨_, rfl, .ref h'.objs.size, upd H h'.objs.size (.lst (ys.map V.int)), I1.laid (t' := tk) (fun b u e => ?_) (Nat.le_refl _)
    (show ObjOk X.prog X.w _ _ _ (.lst (ys.map V.int)) from ⟨hlen, out.toList, e', vals_of_ints g1, by rw [Array.toArray_toList]; exact he'⟩), rfl, q ys _ g2 g3 (I1.hok.fresh (Nat.le_refl _))⟩
  have hb : b < h'.objs.size := Heap.lt_size e
  rw [PyProof.Rows.sortedHeap_old (Nat.ne_of_lt hb) (by rw [size_push']; exact Nat.lt_succ_of_lt hb)]
  exact Heap.get?_push_of_some _ e
end
end L2
namespace Tp
open PySem PySem.Spec PyProof.Rows L2
theorem srt_rev {l m : List Int} (p : m.Perm l) (s : m.Pairwise (· ≥ ·)) : m = (srtI l).reverse := by
  have h1 : m.reverse = srtI l := srtI_eq ((List.reverse_perm m).trans p) (by rw [List.pairwise_reverse]; exact s)
  rw [← h1, List.reverse_reverse]
def gSortDR (a : R) : Option R := match a with
  | .v (.sh (.dct kvs)) => (intK kvs).bind fun ns => if ns.length < 64 then some (rL ((srtI ns).reverse.map .int)) else none
  | _ => none
def cSortDR (a : CE) : CE where
  ev := fun ρ T => (a.ev ρ T).bind fun r T1 => Ev.opt (gSortDR r) T1
  chk := fun k sc e => match e with
    | .Call (.Name x _) [e] [⟨some nm, v, _⟩] _ => decide (x = ("sorted" : Str)) && (decide (nm = ("reverse" : Str)) && (isGl sc.nm x && (notStar e && (a.chk k sc e && (cBl true).chk k sc v))))
    | _ => false
  need := fun Γ => Γ.mg "sorted" = none ∧ a.need Γ ∧ (cBl true).need Γ
  z := a.z || (cBl true).z
  ok := by
    intro Γ k W sc X e n g nd h hz
    split at h
    · rename_i x px e nm v kp pos
      obtain ⟨h1, h⟩ := b2 h
      obtain ⟨h2, h⟩ := b2 h
      obtain ⟨h3, h⟩ := b2 h
      obtain ⟨h4, h⟩ := b2 h
      obtain ⟨h5, h6⟩ := b2 h
      have hx := of_decide_eq_true h1
      subst hx
      have hn := of_decide_eq_true h2
      subst hn
      refine PE.mono (pe_callBK (ks := [Str.ofString "reverse"]) (cr_sortedDRev g.calm) (isGl_ok g.nm h3) (by rw [g.mg]; exact nd.1) PyProof.Rows.boot_sorted (pa_cons (a.ok (n := n) g nd.2.1 h5 (or1 hz).1) pa_nil (star_cons h4))
        (pk_cons ((cBl true).ok (n := n) g nd.2.2 h6 (or1 hz).2) pk_nil) (by decide) (by decide) (by rw [star_cons h4]; rfl) (by rw [star_cons h4]; rfl)) fun σ H Q q => ?_
      obtain ⟨I, ρ, T, own, w, er, p⟩ := q
      refine ⟨I, ρ, T, own, w, er, (Post.bind (rel := RepR Γ n own) backR p).imp fun y H1 q1 => ?_⟩
      obtain ⟨r, T1, I1, _, x1, w1, r1, p1⟩ := q1
      refine ⟨I1, ρ, T1, own, w1, er.ext x1, fun u H2 I2 x2 w2 r2 => ?_⟩
      rw [r2.unsh.bl]
      obtain ⟨r3, e3, p3⟩ := Post.opt p1
      unfold gSortDR at e3
      split at e3
      · obtain ⟨ns, e4, e5⟩ := Option.bind_eq_some_iff.mp e3
        split at e5
        · rename_i h64
          cases e5
          have hx := (r1.ext x2).unsh
          simp only [Rep] at hx
          obtain ⟨b, o, us, rfl, hb, hk⟩ := hx
          refine ⟨b, us, ns, rfl, rfl, .inr ⟨o, w2.gh _ _ hb⟩, by rw [hk.keys]; exact intK_ok e4, h64, fun ys p' hp hs hb => ?_⟩
          rw [srt_rev hp hs]
          exact give_list w2 (reps_ints _) (fun v H' I' x3 w3 r3 => p3 v H' I' (x2.tr0 x3) w3 (r3.back x2.th)) p' hb
        · cases e5
      · cases e3
    · cases h
end Tp
end
section
set_option Elab.async false
set_option linter.all false
set_option maxRecDepth 100000
set_option maxHeartbeats 2000000
/-! TqM: d[k] = v; dict([(k, v), ..]). -/
namespace Tp
open PySem PySem.Spec PyProof.Rows L2
section
variable {Γ : Gam} {n : Nat} {W : WX}
theorem own_dct {σ : L2.St} {ρ : Env} {own : Nat → List Addr} {H : Hp} {I : Im} {i : Nat} {kvs : List (Key × D)} (er : ER Γ n σ ρ H I own) (hi : ρ[i]? = some (some (.od kvs))) : ∃ a us, own i = [a] ∧ σ[i]? = some (some (.ref a)) ∧ H a = some (.dK us) ∧ RepK Γ I kvs us := by
  obtain ⟨v, h1, a, us, h2, rfl, h3, h4⟩ := er.at_ i _ hi
  exact ⟨a, us, h2, h1, h3, h4⟩
end
/-- x[k] = e, x an own dict -/
def sDput (i : Nat) (b a : CE) : C1 where
  ev := fun ρ T => match ρ[i]? with
    | some (some (.od kvs)) => (evD a.ev ρ T).bind fun d T1 => (b.ev ρ T1).bind fun k T2 => match k with
      | .v (.sh (.int m)) => if kvs.length < lim then .ok (.nx (ρ.set i (some (.od (putD kvs (kI m) d))))) T2 else .no
      | _ => .no
    | _ => .no
  chk := fun k sc st => match st with
    | .Assign [.Subscript (.Name x _) j _] e _ => isVar sc i x && (notComp e && (b.chk k sc j && a.chk k sc e))
    | _ => false
  need := fun Γ => b.need Γ ∧ a.need Γ
  ok := by
    intro Γ k W sc X st g nd h
    split at h
    · obtain ⟨h1, h⟩ := b2 h
      obtain ⟨h2, h⟩ := b2 h
      obtain ⟨h3, h4⟩ := b2 h
      refine PS.mono (ps_dput (by have := g.room.un; omega) (isVar_ok g h1) (b.ok (n := X.s_0.heap.objs.size) g nd.1 h3 fun _ => rfl) (a.ok (n := X.s_0.heap.objs.size) g nd.2 h4 fun _ => rfl) (notComp_ok h2 _ _ _)) fun D σ H q => ?_
      obtain ⟨I, ρ, T, own, w, er, p⟩ := q
      have p' : PostS Γ X.s_0.heap.objs.size W D (Ow own) H I (match ρ[i]? with
        | some (some (.od kvs)) => (evD a.ev ρ T).bind fun d T1 => (b.ev ρ T1).bind fun k T2 => match k with
          | .v (.sh (.int m)) => if kvs.length < lim then .ok (.nx (ρ.set i (some (.od (putD kvs (kI m) d))))) T2 else .no
          | _ => .no
        | _ => .no) := p
      split at p'
      · rename_i kvs e1
        obtain ⟨c, us, o1, o2, o3, o4⟩ := own_dct er e1
        obtain ⟨f1, f2, f3⟩ := er.free i c (by rw [o1]; simp)
        refine ⟨I, ρ, T, own, w, er, Post.toD ((PostS.step (rel := relD Γ) p' Ext.refl).imp fun v H1 q1 => ?_)⟩
        obtain ⟨d, T1, I1, _, x1, w1, r1, p1⟩ := q1
        refine ⟨_, o2, I1, ρ, T1, own, w1, er.ext x1, (PostS.step (rel := RepR Γ X.s_0.heap.objs.size own) p1 x1).imp fun y H2 q2 => ?_⟩
        obtain ⟨kk, T2, I2, _, x2, w2, r2, p2⟩ := q2
        split at p2
        · rename_i m _
          split at p2
          · rename_i hl
            have x12 := x1.tr0 x2
            have o3' : H2 c = some (.dK us) := x12.fr _ _ o3 f2 fun z => z
            rw [r2.unsh.int]
            refine ⟨c, _, rfl, DPut.k (k := kI m) o3' (by rw [o4.length]; exact Nat.lt_of_lt_of_le hl lim_le), ?_⟩
            exact p2 σ _ I2 own (write_aft er x12 w2 e1 o1 o2 ⟨c, _, rfl, rfl, upd_same, (RepK.mono x12.le o4).put (kI m) (r1.mono x2.le)⟩)
          · exact p2.elim
        · exact p2.elim
      · exact p'.elim
    · cases h

/-! ### dict([(k, v), ..]) -/
def pairK : D → Option (Key × D)
  | .tup [.int i, d] => some (kI i, d)
  | _ => none
def pairsK : List D → Option (List (Key × D))
  | [] => some []
  | x :: xs => match pairK x, pairsK xs with
    | some p, some ps => some (p :: ps)
    | _, _ => none
def mergeD (kvs more : List (Key × D)) : List (Key × D) := more.foldl (fun acc kv => putD acc kv.1 kv.2) kvs
theorem RepK.merge {Γ : Gam} {I : Im} : ∀ {more : List (Key × D)} {rs : List (Key × V)} {kvs : List (Key × D)} {us : List (Key × V)}, RepK Γ I more rs → RepK Γ I kvs us → RepK Γ I (mergeD kvs more) (mergeK us rs)
  | [], _, kvs, us, h, q => by simp only [RepK] at h; subst h; exact q
  | x :: more, _, kvs, us, h, q => by
    simp only [RepK] at h
    obtain ⟨v, r, rfl, h1, h2⟩ := h
    show RepK Γ I (mergeD (putD kvs x.1 x.2) more) (mergeK (putK us x.1 v) r)
    exact RepK.merge h2 (q.put x.1 h1)
theorem pairsK_ok {Γ : Gam} {I : Im} {H : Hp} (gh : ∀ a o, I.G a = some o → H a = some o) : ∀ {xs : List D} {vs : List V} {kvs : List (Key × D)}, Reps Γ I xs vs → pairsK xs = some kvs →
    ∃ (ps : List Addr) (us : List (Key × V)), vs = ps.map V.ref ∧ Paired (fun p kv => SqT Γ.K H p [kV kv.1, kv.2]) ps us ∧ RepK Γ I kvs us
  | [], _, _, h, e => by
    simp only [Reps] at h
    subst h
    cases e
    exact ⟨[], [], rfl, .nil, RepK.nil⟩
  | x :: xs, _, kvs, h, e => by
    simp only [Reps] at h
    obtain ⟨v, r, rfl, h1, h2⟩ := h
    unfold pairsK at e
    split at e
    · rename_i p ps e1 e2
      cases e
      obtain ⟨as, us, rfl, pr, rk⟩ := pairsK_ok gh h2 e2
      unfold pairK at e1
      split at e1
      · rename_i i d
        cases e1
        obtain ⟨a, ws, rfl, ha, hr⟩ := h1.tup
        simp only [Reps] at hr
        obtain ⟨v1, r1, rfl, hv1, v2, r2, rfl, hv2, rfl⟩ := hr
        rw [hv1.int] at ha
        exact ⟨a :: as, (kI i, v2) :: us, rfl, .cons (SqT.ext gh ha) pr, RepK.cons hv2 rk⟩
      · cases e1
    · cases e
theorem give_dct {Γ : Gam} {n : Nat} {own : Nat → List Addr} {H : Hp} {I : Im} {T : Cs} {Q : VK} {kvs : List (Key × D)} {us : List (Key × V)} (w : Wf Γ H I T) (h : RepK Γ I kvs us) (q : ∀ v H' I', Ext O0 H I H' I' → Wf Γ H' I' T → RepR Γ n own H H' I' (.v (.od kvs)) v → Q v H') :
    ∀ p, H p = none → Q (.ref p) (upd H p (.dK us)) := fun p hp => by
  refine q _ _ I (Ext.new hp _) (w.new hp _) ⟨[p], ⟨p, us, rfl, rfl, upd_same, h⟩, fun a ha => ?_⟩
  have e : a = p := by simpa using ha
  subst e
  exact ⟨w.gnone hp, w.nocell hp, by rw [upd_same]; simp, hp⟩
def gDictP (a : R) : Option R := match rLs2 a with
  | some xs => (pairsK xs).map fun kvs => .v (.od (mergeD [] kvs))
  | none => none
theorem boot_dictT : bootBuiltins "dict" = some (.type "dict") := by first | rfl | kernel_rfl | decide +kernel
def bDictP : Blt := bltT "dict" "dict" (f1 gDictP) boot_dictT fun {Γ k W sc X n} g => by
  refine CallR.mono (call_dictP g.calm) (rdN_one (fun _ _ => f1_one) fun H I T own Hs a c x Q w ra e q => ?_)
  have e1 : gDictP a = some c := e
  unfold gDictP at e1
  split at e1
  · rename_i xs e0
    obtain ⟨kvs, e2, rfl⟩ := Option.map_eq_some_iff.mp e1
    obtain ⟨p, vs, rfl, p1, p2⟩ := rLs2_ok w e0 ra
    obtain ⟨ps, us, rfl, pr, rk⟩ := pairsK_ok w.gh p2 e2
    refine ⟨p, ps, us, rfl, by rw [g.K]; exact p1, by rw [g.K]; exact pr, give_dct w (RepK.merge rk RepK.nil) q⟩
  · cases e1
end Tp
end
section
set_option Elab.async false
set_option linter.all false
set_option maxRecDepth 100000
set_option maxHeartbeats 2000000
/-! TqN: d == e, d != e of dicts with plain values. -/
namespace L2
open PySem PySem.Spec PyProof.Rows
/-- what the walk over the one's entries finds in the other -/
inductive HitsV (K : PySem.W.Frag) (H : Hp) (ls : List (Key × V)) : List (Key × V) → Bool → Prop
  | nil : HitsV K H ls [] true
  | miss {k : Key} {v : V} {r : List (Key × V)} : valV ls k = none → HitsV K H ls ((k, v) :: r) false
  | hit {k : Key} {v y : V} {r : List (Key × V)} {p q : PyData} {b : Bool} : valV ls k = some y → Dp K H v p → Dp K H y q → SeqAt.shaped p = true → SeqAt.shaped q = true → HitsV K H ls r b → HitsV K H ls ((k, v) :: r) (PyData.eqv p q && b)
section
variable {X : Cx} {pins : List (Addr × Obj)} {σ : St} {H : Hp} {s : Shared}
theorem hits_ofV (I : Inv X pins σ H s) {A : Around} (hu : A.units + 64 < cLine) {ls : List (Key × V)} {vb : List (Key × Value)} (rb : KV ls vb) : ∀ {ks : List (Key × V)} {va : List (Key × Value)} {b : Bool}, KV ks va → HitsV X.K H ls ks b → PySem.W.KeqHits A s vb va b := by
  intro ks va b ra
  unfold KV at ra
  induction ra generalizing b with
  | nil => intro h; cases h; exact .nil
  | @cons p q ps qs h t k =>
    intro hp
    obtain ⟨h1, h2⟩ := h
    obtain ⟨key, v⟩ := q
    obtain ⟨pk, pv⟩ := p
    have h1' : pk = key := h1
    subst h1'
    cases hp with
    | miss hn =>
      refine .miss ?_
      have rr : RelO (none : Option V) (valueAt vb pk) := by rw [← hn]; exact rb.val pk
      cases e : valueAt vb pk with
      | none => rfl
      | some y => rw [e] at rr; exact rr.elim
    | hit hy d1 d2 s1 s2 hr =>
      have rr := rb.val pk
      rw [hy] at rr
      obtain ⟨y, hy', ry⟩ := rr.some_of
      obtain ⟨as, r1⟩ := Dp.reads I _ _ _ d1 h2
      obtain ⟨bs, r2⟩ := Dp.reads I _ _ _ d2 ry
      exact .hit hy' (SeqAt.eqAt_reads _ _ A s _ _ as bs r1 r2 (SeqAt.canLay_of_shaped s1) (SeqAt.canLay_of_shaped s2) (SeqAt.room_of_shaped s1 hu)) (k hr)
def rEqDct (K : PySem.W.Frag) (f : Bool → Bool) : R2 := fun x y H Q => ∃ a b ks ls r, x = .ref a ∧ y = .ref b ∧ Rd H a (.dK ks) ∧ Rd H b (.dK ls) ∧ (ks.length = ls.length → HitsV K H ls ks r) ∧ Q (.bl (f (ks.length == ls.length && r))) H
theorem op_eqDct (hu : X.A.units + 100 < cLine) : OpR X (compareOp .Eq) (rEqDct X.K id) := by
  intro pins s σ H x y v u Q I rx ry h
  obtain ⟨a, b, ks, ls, r, rfl, rfl, ea, eb, hp, q⟩ := h
  obtain rfl : v = Value.ref a := rx
  obtain rfl : u = Value.ref b := ry
  obtain ⟨_, ya, va, ra, da⟩ := dk_rd I.hok ea
  obtain ⟨_, yb, vb, rb, db⟩ := dk_rd I.hok eb
  refine PySem.W.keq_eq (knd := mixKind X.prog X.w) (r := r) ya yb da db (by omega) (fun hl => hits_ofV I (A := X.A.in1) (by show X.A.units + 1 + 64 < cLine; omega) rb ra (hp (by rw [ra.length, rb.length]; exact hl))) ?_
  rw [← ra.length, ← rb.length]
  exact ⟨.bl _, H, I, rfl, q⟩
theorem op_neDct (hu : X.A.units + 100 < cLine) : OpR X (compareOp .NotEq) (rEqDct X.K Bool.not) := by
  intro pins s σ H x y v u Q I rx ry h
  obtain ⟨a, b, ks, ls, r, rfl, rfl, ea, eb, hp, q⟩ := h
  obtain rfl : v = Value.ref a := rx
  obtain rfl : u = Value.ref b := ry
  obtain ⟨_, ya, va, ra, da⟩ := dk_rd I.hok ea
  obtain ⟨_, yb, vb, rb, db⟩ := dk_rd I.hok eb
  refine PySem.W.keq_ne (knd := mixKind X.prog X.w) (r := r) ya yb da db (by omega) (fun hl => hits_ofV I (A := X.A.in1) (by show X.A.units + 1 + 64 < cLine; omega) rb ra (hp (by rw [ra.length, rb.length]; exact hl))) ?_
  rw [← ra.length, ← rb.length]
  exact ⟨.bl _, H, I, rfl, q⟩
end
end L2
namespace Tp
open PySem PySem.Spec PyProof.Rows L2
def hitsD (ls : List (Key × D)) : List (Key × D) → Option Bool
  | [] => some true
  | (k, d) :: r => match getK ls k with
    | none => some false
    | some e => match toPy d, toPy e, hitsD ls r with
      | some p, some q, some b => if SeqAt.shaped p && SeqAt.shaped q then some (PyData.eqv p q && b) else none
      | _, _, _ => none
def eqDct (ks ls : List (Key × D)) : Option Bool := if ks.length = ls.length then hitsD ls ks else some false
section
variable {Γ : Gam} {I : Im} {H : Hp}
theorem RepK.getN : ∀ {kvs : List (Key × D)} {us : List (Key × V)} {k : Key}, RepK Γ I kvs us → getK kvs k = none → valV us k = none
  | [], _, _, h, _ => by simp only [RepK] at h; subst h; rfl
  | x :: kvs, _, k, h, e => by
    simp only [RepK] at h
    obtain ⟨v, r, rfl, h1, h2⟩ := h
    by_cases c : x.1 = k
    · have : getK (x :: kvs) k = some x.2 := by unfold getK; rw [List.find?_cons, decide_eq_true c]; rfl
      rw [this] at e
      cases e
    · have : getK (x :: kvs) k = getK kvs k := by unfold getK; rw [List.find?_cons, decide_eq_false c]
      rw [this] at e
      rw [valV_neg c]
      exact h2.getN e
theorem hitsD_ok (gh : ∀ a o, I.G a = some o → H a = some o) {ls : List (Key × D)} {lu : List (Key × V)} (rl : RepK Γ I ls lu) : ∀ {ks : List (Key × D)} {ku : List (Key × V)} {b : Bool}, RepK Γ I ks ku → hitsD ls ks = some b → HitsV Γ.K H lu ku b
  | [], _, _, h, e => by
    simp only [RepK] at h
    subst h
    cases e
    exact .nil
  | (k, d) :: ks, _, b, h, e => by
    simp only [RepK] at h
    obtain ⟨v, r, rfl, h1, h2⟩ := h
    unfold hitsD at e
    split at e
    · rename_i e1
      cases e
      exact .miss (rl.getN e1)
    · rename_i d' e1
      obtain ⟨y, e2, ry⟩ := rl.get e1
      split at e
      · rename_i p q b' e3 e4 e5
        split at e
        · rename_i hs
          cases e
          obtain ⟨s1, s2⟩ := b2 hs
          exact .hit e2 (toPy_ok gh h1 e3) (toPy_ok gh ry e4) s1 s2 (hitsD_ok gh rl h2 e5)
        · cases e
      · cases e
end
def eqX (a b : R) : Option Bool := match a, b with
  | .v (.sh (.dct ks)), .v (.sh (.dct ls)) => eqDct ks ls
  | _, _ => none
theorem eqX_ok {Γ : Gam} {n : Nat} {own : Nat → List Addr} {Hs H : Hp} {I : Im} {T : Cs} (w : Wf Γ H I T) {a b : R} {k : Bool} {x y : V} (h : eqX a b = some k) (ra : RepR Γ n own Hs H I a x) (rb : RepR Γ n own Hs H I b y) :
    ∃ a b ks ls r, x = .ref a ∧ y = .ref b ∧ Rd H a (.dK ks) ∧ Rd H b (.dK ls) ∧ (ks.length = ls.length → HitsV Γ.K H ls ks r) ∧ k = (ks.length == ls.length && r) := by
  unfold eqX at h
  split at h
  · have hx := ra.unsh
    have hy := rb.unsh
    simp only [Rep] at hx hy
    obtain ⟨a, o, us, rfl, ha, ka⟩ := hx
    obtain ⟨b, o', ws, rfl, hb, kb⟩ := hy
    unfold eqDct at h
    split at h
    · rename_i hl
      refine ⟨a, b, us, ws, k, rfl, rfl, .inr ⟨o, w.gh _ _ ha⟩, .inr ⟨o', w.gh _ _ hb⟩, fun _ => hitsD_ok w.gh kb ka h, ?_⟩
      rw [ka.length, kb.length, hl]; simp
    · rename_i hl
      cases h
      refine ⟨a, b, us, ws, false, rfl, rfl, .inr ⟨o, w.gh _ _ ha⟩, .inr ⟨o', w.gh _ _ hb⟩, fun q => absurd (by rw [ka.length, kb.length] at q; exact q) hl, ?_⟩
      simp
  · cases h
def oEqDct : Cp2 where
  op := .Eq
  f := fun rs => match rs with
    | [a, b] => (eqX a b).map rB
    | _ => none
  snd := fun {Γ k W sc X n} g => by
    refine OpR.mono (op_eqDct (by have := g.room.un; omega)) (rd2_mk fun H I T own Hs a b c x y Q w ra rb e q => ?_)
    obtain ⟨z, e1, rfl⟩ := Option.map_eq_some_iff.mp (show (eqX a b).map rB = some c from e)
    obtain ⟨p, p', ks, ls, r, rfl, rfl, h1, h2, h3, rfl⟩ := eqX_ok w e1 ra rb
    exact ⟨p, p', ks, ls, r, rfl, rfl, h1, h2, by rw [g.K]; exact h3, give_val w .ofBl q⟩
def oNeDct : Cp2 where
  op := .NotEq
  f := fun rs => match rs with
    | [a, b] => (eqX a b).map fun k => rB (!k)
    | _ => none
  snd := fun {Γ k W sc X n} g => by
    refine OpR.mono (op_neDct (by have := g.room.un; omega)) (rd2_mk fun H I T own Hs a b c x y Q w ra rb e q => ?_)
    obtain ⟨z, e1, rfl⟩ := Option.map_eq_some_iff.mp (show (eqX a b).map (fun k => rB (!k)) = some c from e)
    obtain ⟨p, p', ks, ls, r, rfl, rfl, h1, h2, h3, rfl⟩ := eqX_ok w e1 ra rb
    exact ⟨p, p', ks, ls, r, rfl, rfl, h1, h2, by rw [g.K]; exact h3, give_val w .ofBl q⟩
end Tp
end
section
set_option Elab.async false
set_option linter.all false
set_option maxRecDepth 100000
set_option maxHeartbeats 2000000
/-! TqO: a == b, a != b of objects of one class with its own __eq__. -/
namespace HN
open PySem PySem.Spec PyProof.Rows PySem.SeqAt
section
variable {M : Model} {prog : Program} {w : World} {A : Around} {E : Value → Shared → Prop} {s : Shared} {K : PySem.W.Frag} {x C f : Addr} {ox : Obj} {od : Option Obj} {b tb : Value}
theorem ifBound_objNe {args : List Value} {Q : Option Value → Shared → Prop} (X : K.In s.heap) (I : PySem.W.InstAt s.heap x ox C od) (hs : PySem.W.findIn K (.ref C) "__ne__" = some (some (.builtin "object.__ne__")))
    (h : wpAny M A (call (.builtin "object.__ne__") (.ref x :: args)) (fun v => Q (some v)) E s) : wpAny M A (callSpecialIfBound? (.ref x) "__ne__" args) Q E s := by
  simp only [callSpecialIfBound?, bindSpecialIfBound?]
  refine wpAny_holding (wpAny_bind (wpAny_bind (wpAny_bind (I.type.here ((PySem.W.looks_findIn X hs).here ?_)))))
  refine wpAny_bind (wpAny_askSetting (wpAny_ite ?_))
  have fin : wpAny M A (call (.builtin "object.__ne__") ([.ref x] ++ args) >>= fun v => pure (some v)) Q E s := wpAny_bind (wpAny_mono h (fun v s' h' => wpAny_pure h') fun _ _ h' => h')
  split
  · exact wpAny_bind (wpAny_of_eq (F.cmp_object.ne.bind _) (wpAny_pure (by exact fin)))
  · exact wpAny_tryCatch (wpAny_bind (wpAny_of_eq (F.cmp_object.ne.bind _) (wpAny_pure (by exact fin))))
theorem entry_ne {Q : Fin → Shared → Prop} (hu : A.units < cLine) (X : K.In s.heap) (I : PySem.W.InstAt s.heap x ox C od) (hs : PySem.W.findIn K (.ref C) "__eq__" = some (some (.ref f))) (hf : PySem.W.isFn K (.ref f) = true)
    (h : wpAny M A (call (.ref f) [.ref x, b]) (fun v s' => ∃ r, v = .bool r ∧ Q (.done (.ret (.bool (!r)))) s') E s) : wpAny M A (Builtin.«object.__ne__» ⟨[.ref x, b], []⟩) Q E s := by
  unfold Builtin.«object.__ne__»
  repeat (first | with_reducible refine wpAny_cRoomFor hu ?_ | with_reducible refine wpAny_bind (PySem.W.ifBound_K X I hs hf (wpAny_mono h (fun v s' hv => ?_) fun _ _ e => e)) | wp_step)
  obtain ⟨r, rfl, q⟩ := hv
  refine wpAny_bind (wpAny_truthy_bool ?_)
  exact wpAny_pure q
theorem ne_K {Q : Value → Shared → Prop} (hu : A.units + 2 < cLine) (X : K.In s.heap) (I : PySem.W.InstAt s.heap x ox C od) (hb : PySem.W.Looks (model prog w) s.heap (typeOf b) tb) (hn : PySem.W.notFirst K C tb = true)
    (hm : PySem.W.mroIn K C (.type "object") = some true) (hs : PySem.W.findIn K (.ref C) "__eq__" = some (some (.ref f))) (hf : PySem.W.isFn K (.ref f) = true) (hsn : PySem.W.findIn K (.ref C) "__ne__" = some (some (.builtin "object.__ne__")))
    (h : wpAny (model prog w) A.in1 (call (.ref f) [.ref x, b]) (fun v s' => ∃ r, v = .bool r ∧ Q (.bool (!r)) s') E s) : wpAny (model prog w) A (richCompare .NotEq (.ref x) b) Q E s := by
  have one : wpAny (model prog w) A (tryCompare (.ref x) (cmpInfo .NotEq).2.1 b) (fun r s' => ∃ v, r = some v ∧ Q v s') E s := by
    unfold tryCompare
    refine wpAny_bind (ifBound_objNe X I hsn ?_)
    refine wpAny_call (codeAny_call_builtin F.cmp_object.ne.plain F.cmpEntry_ne (PySem.W.check_slot F.cmpKind_ne F.cmpSplit_ne (I.type.andThen (PySem.W.looks_mroIn X hm)) (F.cmpArgs_ne _ _) (entry_ne (by show A.units + 1 < cLine; omega) X I hs hf (wpAny_mono h (fun v s' hv => ?_) fun _ _ e => e))))
    obtain ⟨r, rfl, q⟩ := hv
    exact ⟨r, rfl, wpAny_pure ⟨_, rfl, q⟩⟩
  unfold richCompare
  simp only [oneThing_ref]
  refine wpAny_holding (wpAny_bind (wpAny_cRoomFor (by omega) ?_))
  refine wpAny_bind (I.type.here (wpAny_bind (hb.here ?_)))
  split
  · rename_i q
    have e : PySem.W.subIn K tb (.ref C) = some false := by
      rcases Bool.or_eq_true_iff.mp hn with e | e
      · rw [beq_iff_eq.mp e] at q; simp at q
      · exact beq_iff_eq.mp e
    refine wpAny_bind ((PySem.W.looks_subIn X e).here ?_)
    simp only [Bool.false_eq_true, if_false]
    refine wpAny_bind (wpAny_mono one (fun r s' z => ?_) fun _ _ e => e)
    obtain ⟨v, rfl, hq⟩ := z
    exact wpAny_pure hq
  · refine wpAny_bind (wpAny_pure ?_)
    simp only [Bool.false_eq_true, if_false]
    refine wpAny_bind (wpAny_mono one (fun r s' z => ?_) fun _ _ e => e)
    obtain ⟨v, rfl, hq⟩ := z
    exact wpAny_pure hq
end
end HN
namespace Tp
open PySem PySem.Spec PyProof.Rows L2
structure OwnEq (Γ : Gam) (c : Nat) (s : DefSig) (ev : FEv) : Prop where
  cl : ClsFull Γ c
  ex : ∃ f, PySem.W.findIn Γ.K (.ref (cAd Γ c)) "__eq__" = some (some (.ref f)) ∧ PySem.W.isFn Γ.K (.ref f) = true ∧ FnIs Γ s ev f
  ne : PySem.W.findIn Γ.K (.ref (cAd Γ c)) "__ne__" = some (some (.builtin "object.__ne__"))
def rObjEq (Γ : Gam) (c : Nat) (neg : Bool) (ev : FEv) : R2 := fun x y H Q => ∃ I T xs ys r T3, Wf Γ H I T ∧ Rep Γ I (.obj c xs) x ∧ Rep Γ I (.obj c ys) y ∧ ev [.obj c xs, .obj c ys] T = .ok (.sh (.bl r)) T3 ∧
  ∀ H' I', Tp.Ext O0 H I H' I' → Wf Γ H' I' T3 → Q (.bl (if neg then !r else r)) H'
def negOp (neg : Bool) : CmpOp := if neg then .NotEq else .Eq
theorem op_objEq {Γ : Gam} {k : Nat} {W : WX} {sc : Sc} {X : Cx} {c : Nat} {s : DefSig} {ev : FEv} (neg : Bool) (g : Good Γ k W sc X) (O : OwnEq Γ c s ev) (B : BindOk s 2 [] (srcAll 2)) (hlv : s.lv + 1 ≤ k) : OpR X (compareOp (negOp neg)) (rObjEq Γ c neg ev) := by
  intro pins sh σ H x y v u Q Iv rx ry h
  obtain ⟨I, T, xs, ys, r, T3, w, ra, rb, e3, q⟩ := h
  obtain ⟨CF, ⟨f, hs, hf, F⟩, hne⟩ := O
  have ra' := ra
  have rb' := rb
  simp only [Rep] at ra' rb'
  obtain ⟨a, dx, us, rfl, h4, _, _⟩ := ra'
  obtain ⟨b, dy, vs, rfl, h5, _, _⟩ := rb'
  rw [CF.cd] at h4 h5
  obtain rfl : v = Value.ref a := rx
  obtain rfl : u = Value.ref b := ry
  obtain ⟨fd, FD, FG⟩ := F.fn
  obtain ⟨mA, J, _⟩ := ins_get Iv.hok (w.gh _ _ h4)
  obtain ⟨mB, J', _⟩ := ins_get Iv.hok (w.gh _ _ h5)
  obtain ⟨od, J, _⟩ := J.look
  obtain ⟨od', J', _⟩ := J'.look
  have KX : X.K.In sh.heap := Iv.kIn
  have KI : Γ.K.In sh.heap := by rw [← g.K]; exact Iv.kIn
  obtain ⟨its, ri, hb⟩ := bind_of (sh := sh) B FD KI (us := [.ref a, .ref b]) (ws := []) rfl rfl
  have e0 : Env0 Γ.P Γ.w Γ.K Γ.mg Γ.base X.A X.stack sh H := by
    have := Iv.env0
    rw [g.prog, g.w, g.K, g.mg, g.base] at this
    exact this
  have hsp : ∀ Q' : VK, (∀ H', Q (.bl (if neg then !r else r)) H' → Q' (.bl r) H') → spD Γ s.ps.length ev (sel .non ([V.ref a, V.ref b] ++ []) (s.dfl.map constV) (srcAll 2)) H Q' (fun _ _ _ => False) := fun Q' hQ => by
    refine ⟨I, T, [.obj c xs, .obj c ys], w, Reps.cons ra (Reps.cons rb Reps.nil), B.len, ?_⟩
    rw [e3]
    refine fun v H' I' as x' w' r' q' => ?_
    obtain ⟨_, r2⟩ := r'
    rw [Rep.bl r2]
    exact hQ _ (q H' I' x' w')
  have vv : Paired RelV [V.ref a, V.ref b] [Value.ref a, Value.ref b] := .cons rfl (.cons rfl .nil)
  have hs' : PySem.W.findIn X.K (.ref (cAd Γ c)) "__eq__" = some (some (.ref f)) := by rw [g.K]; exact hs
  have hf' : PySem.W.isFn X.K (.ref f) = true := by rw [g.K]; exact hf
  cases neg with
  | false =>
    obtain ⟨m, hF⟩ := Iv.fr
    show wpAny (model X.prog X.w) X.A (richCompare .Eq (.ref a) (.ref b)) (EP X pins σ Q) X.xe sh
    refine PySem.W.cmp_K (op := .Eq) (tb := .ref (cAd Γ c)) g.room.units0 hF Iv.ok.mod.kin J J'.type (by simp [PySem.W.notFirst]) hs' hf' ?_
    have hrun := FG.run X.A X.stack sh H ⟨[.ref a, .ref b], []⟩ _ _ (fun v H' => ∃ r0, v = .bl r0 ∧ Q v H') (fun _ _ _ => False) g.gd (g.room.mono (by omega)) e0 hb (Tp.Vals.sel vv ri _) (hsp _ fun H' h => ⟨r, rfl, h⟩)
    rw [← g.prog, ← g.w] at hrun
    refine wpAny_call (codeAny_mono hrun ?_)
    rintro r' s' hq
    match r', hq with
    | .error er, hq =>
      obtain ⟨_, _, _, _, _, _, _, _, _, _, _, _, z⟩ := hq
      exact z.elim
    | .ok (.ret u), hq =>
      obtain ⟨v, H', I3, rv, r0, rfl, q3⟩ := Iv.after hq
      cases rv
      exact ⟨.bl r0, H', I3, rfl, q3⟩
    | .ok .next, hq => exact hq.elim
    | .ok .brk, hq => exact hq.elim
    | .ok .cont, hq => exact hq.elim
  | true =>
    show wpAny (model X.prog X.w) X.A (richCompare .NotEq (.ref a) (.ref b)) (EP X pins σ Q) X.xe sh
    refine HN.ne_K (tb := .ref (cAd Γ c)) (by have := g.room.un; omega) KX J J'.type (by simp [PySem.W.notFirst]) (by rw [g.K]; exact CF.hm) hs' hf' (by rw [g.K]; exact hne) ?_
    have hrun := FG.run X.A.in1 X.stack sh H ⟨[.ref a, .ref b], []⟩ _ _ (fun v H' => ∃ r0, v = .bl r0 ∧ Q (.bl (!r0)) H') (fun _ _ _ => False) g.gd ((g.room.mono hlv).in1) e0.in1 hb (Tp.Vals.sel vv ri _) (hsp _ fun H' h => ⟨r, rfl, h⟩)
    rw [← g.prog, ← g.w] at hrun
    refine wpAny_call (codeAny_mono hrun ?_)
    rintro r' s' hq
    match r', hq with
    | .error er, hq =>
      obtain ⟨_, _, _, _, _, _, _, _, _, _, _, _, z⟩ := hq
      exact z.elim
    | .ok (.ret u), hq =>
      obtain ⟨v, H', I3, rv, r0, rfl, q3⟩ := Iv.after hq
      cases rv
      exact ⟨r0, rfl, .bl (!r0), H', I3, rfl, q3⟩
    | .ok .next, hq => exact hq.elim
    | .ok .brk, hq => exact hq.elim
    | .ok .cont, hq => exact hq.elim
def objEv (neg : Bool) (c : Nat) (ev : FEv) (a b : Env → Cs → Ev D) : Env → Cs → Ev R := fun ρ T => (a ρ T).bind fun d T1 => (b ρ T1).bind fun e T2 => match d, e with
  | .obj c1 xs, .obj c2 ys => if c1 = c ∧ c2 = c then (match ev [.obj c xs, .obj c ys] T2 with
    | .ok (.sh (.bl r)) T3 => .ok (.v (.sh (.bl (if neg then !r else r)))) T3
    | _ => .no) else .no
  | _, _ => .no
theorem obj_tree {Γ : Gam} {n : Nat} {W : WX} {neg : Bool} {c : Nat} {ev : FEv} {a b : Env → Cs → Ev R} : ∀ σ H Q, tE Γ n W (objEv neg c ev (evD a) (evD b)) σ H Q → tOp (rObjEq Γ c neg ev) (tE Γ n W a) (tE Γ n W b) σ H Q := fun σ H Q q => by
  obtain ⟨I, ρ, T, own, w, er, p⟩ := q
  have p : Post Γ (RepR Γ n own) W σ H I ((evD a ρ T).bind fun d T1 => (evD b ρ T1).bind fun e T2 => match d, e with
    | .obj c1 xs, .obj c2 ys => if c1 = c ∧ c2 = c then (match ev [.obj c xs, .obj c ys] T2 with
      | .ok (.sh (.bl r)) T3 => .ok (.v (.sh (.bl (if neg then !r else r)))) T3
      | _ => .no) else .no
    | _, _ => .no) Q := p
  refine ⟨I, ρ, T, own, w, er, Post.toD ((Post.bind (rel := relD Γ) backR p).imp fun x H1 q1 => ?_)⟩
  obtain ⟨d, T1, I1, _, x1, w1, r1, p1⟩ := q1
  refine ⟨I1, ρ, T1, own, w1, er.ext x1, Post.toD ((Post.bind (rel := relD Γ) backR p1).imp fun y H2 q2 => ?_)⟩
  obtain ⟨e, T2, I2, _, x2, w2, r2, p2⟩ := q2
  have r1 : Rep Γ I2 d x := (show Rep Γ I1 d x from r1).mono x2.le
  have r2 : Rep Γ I2 e y := r2
  split at p2
  · split at p2
    · rename_i hc
      obtain ⟨rfl, rfl⟩ := hc
      split at p2
      · rename_i r T3 e3
        exact ⟨I2, T2, _, _, r, T3, w2, r1, r2, e3, fun H' I' x' w' => p2 _ H' I' x' w' (.sh .ofBl)⟩
      · exact p2.elim
    · exact p2.elim
  · exact p2.elim
/-- a == b (neg: a != b), objects of the class number c -/
def cObjEq (neg : Bool) (c : Nat) (s : DefSig) (ev : FEv) (a b : CE) {sr : List Src} (B : BindOk s 2 [] sr) : CE where
  ev := objEv neg c ev (evD a.ev) (evD b.ev)
  chk := fun k sc e => match e with
    | .Compare x [op] [y] _ => decide (sr = srcAll 2) && (decide (s.lv + 1 ≤ k) && ((op == negOp neg) && (notSet y && (a.chk k sc x && b.chk k sc y))))
    | _ => false
  need := fun Γ => OwnEq Γ c s ev ∧ a.need Γ ∧ b.need Γ
  z := a.z || b.z
  ok := by
    intro Γ k W sc X e n g nd h hz
    split at h
    · obtain ⟨h5, h⟩ := b2 h
      obtain ⟨h4, h⟩ := b2 h
      obtain ⟨h1, h⟩ := b2 h
      obtain ⟨h0, h⟩ := b2 h
      obtain ⟨h2, h3⟩ := b2 h
      have e5 := of_decide_eq_true h5
      subst e5
      rw [eq_of_beq h1]
      exact PE.mono (pe_cmpR (op_objEq neg g nd.1 B (of_decide_eq_true h4)) (a.ok g nd.2.1 h2 (or1 hz).1) (b.ok g nd.2.2 h3 (or1 hz).2) (notSet_ok h0 _)) obj_tree
    · cases h
def tObjEq (neg : Bool) (c : Nat) (s : DefSig) (ev : FEv) (a b : CE) {sr : List Src} (B : BindOk s 2 [] sr) : CT where
  ev := evB (objEv neg c ev (evD a.ev) (evD b.ev))
  chk := fun k sc e => match e with
    | .Compare x [op] [y] _ => decide (sr = srcAll 2) && (decide (s.lv + 1 ≤ k) && ((op == negOp neg) && (notSet y && (a.chk k sc x && b.chk k sc y))))
    | _ => false
  need := fun Γ => OwnEq Γ c s ev ∧ a.need Γ ∧ b.need Γ
  z := a.z || b.z
  ok := by
    intro Γ k W sc X e n g nd h hz
    split at h
    · obtain ⟨h5, h⟩ := b2 h
      obtain ⟨h4, h⟩ := b2 h
      obtain ⟨h1, h⟩ := b2 h
      obtain ⟨h0, h⟩ := b2 h
      obtain ⟨h2, h3⟩ := b2 h
      have e5 := of_decide_eq_true h5
      subst e5
      rw [eq_of_beq h1]
      refine PT.mono (pt_cmpR (op_objEq neg g nd.1 B (of_decide_eq_true h4)) (a.ok (n := n) g nd.2.1 h2 (or1 hz).1) (b.ok (n := n) g nd.2.2 h3 (or1 hz).2) (notSet_ok h0 _)) fun σ H Q q => ?_
      exact obj_tree σ H _ (tT_val σ H Q q)
    · cases h
end Tp
end
section
set_option Elab.async false
set_option linter.all false
set_option maxRecDepth 100000
set_option maxHeartbeats 2000000
/-! TqP: a class's own __eq__, found by the kernel. -/
namespace Tp
open PySem PySem.Spec PyProof.Rows L2
def eqB (K : PySem.W.Frag) (C : Str) : Bool := (PySem.W.findIn K (.ref (He.ga K C)) "__eq__" == some (some (.ref (He.fAd K (C, some "__eq__"))))) && (PySem.W.isFn K (.ref (He.fAd K (C, some "__eq__"))) && (PySem.W.findIn K (.ref (He.ga K C)) "__ne__" == some (some (.builtin "object.__ne__"))))
theorem eqB_ok {Γ : Gam} {c : Nat} {s : DefSig} {ev : FEv} (CF : ClsFull Γ c) (F : FnIs Γ s ev (He.fAd Γ.K ((cdT c).1, some "__eq__"))) (h : eqB Γ.K (cdT c).1 = true) : OwnEq Γ c s ev := by
  unfold eqB at h
  obtain ⟨h1, h⟩ := b2 h
  obtain ⟨h2, h3⟩ := b2 h
  exact ⟨CF, ⟨_, beq_iff_eq.mp h1, h2, F⟩, beq_iff_eq.mp h3⟩
end Tp
end
section
set_option Elab.async false
set_option linter.all false
set_option maxRecDepth 100000
set_option maxHeartbeats 2000000
/-! TqQ: several names at once by way of a tuple (where not all are plain locals): what is kept is each one's own. -/
namespace Tp
open PySem PySem.Spec PyProof.Rows L2
def isName : Expr → Bool
  | .Name .. => true
  | _ => false
/-- targets: names in slots -/
def nmsAt (sc : Sc) : List Nat → List Expr → Bool
  | [], [] => true
  | i :: is, .Name x _ :: es => okStore sc i x && nmsAt sc is es
  | _, _ => false
def gSets : List Nat → TGs
  | [] => gNil
  | i :: is => gCons (gName i) (gSets is)
theorem pgs_nms {Γ : Gam} {k : Nat} {W : WX} {sc : Sc} {X : Cx} (g : Good Γ k W sc X) : ∀ {is : List Nat} {es : List Expr}, nmsAt sc is es = true → PGs X es (gSets is) ∧ (assignEach es X.env).length = is.length ∧ (assignEach es X.env).findIdx? (·.1) = none
  | [], [], _ => ⟨pgs_nil, rfl, rfl⟩
  | [], _ :: _, h => by cases h
  | _ :: _, [], h => by cases h
  | i :: is, e :: es, h => by
    cases e with
    | Name x px =>
      obtain ⟨h1, h2⟩ := b2 (show (okStore sc i x && nmsAt sc is es) = true from h)
      obtain ⟨i1, i2, i3⟩ := pgs_nms g h2
      obtain ⟨s1, s2, s3⟩ := okStore_ok g h1
      have e1 : assignEach (.Name x px :: es) X.env = (false, assign (.Name x px) X.env) :: assignEach es X.env := rfl
      refine ⟨pgs_cons (pg_name g.nd s1 s2 s3) i1 (by rw [e1]; rfl), by rw [e1, List.length_cons, i2]; rfl, ?_⟩
      rw [e1, List.findIdx?_cons, i3]
      rfl
    | _ => cases h
theorem gSets_go : ∀ {is : List Nat} {vs : List V} {σ : L2.St} {H : Hp} {Q : L2.St → Hp → Prop}, vs.length = is.length → Q (setAll σ is vs) H → gSets is vs σ H Q
  | [], [], σ, H, Q, _, q => ⟨rfl, by unfold setAll at q; exact q⟩
  | [], _ :: _, _, _, _, h, _ => by cases h
  | _ :: _, [], _, _, _, h, _ => by cases h
  | i :: is, v :: vs, σ, H, Q, h, q => ⟨v, vs, rfl, gSets_go (by simpa using h) (by unfold setAll at q; exact q)⟩
def sParT (is : List Nat) (c : CK) : C1 where
  ev := fun ρ T => (c.ev ρ T).bind fun ls T1 => if is.all fun i => decide (i < ρ.length) then .ok (.nx (setAll ρ is ls)) T1 else .no
  chk := fun k sc st => match st with
    | .Assign [.Tuple ts kt pt] (.Tuple vs k2 p2) _ => noSw (.Tuple ts kt pt) (.Tuple vs k2 p2) sc.nm && (nmsAt sc is ts && (decide (c.len = is.length) && (decide (c.len ≤ 3) && c.chk k sc vs)))
    | _ => false
  need := c.need
  ok := by
    intro Γ k W sc X st g nd h
    split at h
    · rename_i ts kt pt vs k2 p2 pos
      obtain ⟨h1, h⟩ := b2 h
      obtain ⟨h2, h⟩ := b2 h
      obtain ⟨h3, h⟩ := b2 h
      obtain ⟨h4, h5⟩ := b2 h
      have h3' := of_decide_eq_true h3
      have h4' := of_decide_eq_true h4
      obtain ⟨w1, w2⟩ := noSw_ok g.nm h1
      obtain ⟨p1, p2, p3⟩ := pgs_nms g h2
      refine PS.mono (ps_asg (pe_tup (c.ok g nd h5)) (pg_tup g.calm p1 p2 p3) rfl w1 w2) fun D σ H q => ?_
      obtain ⟨I, ρ, T, own, w, er, p⟩ := q
      have p0 : PostS Γ X.s_0.heap.objs.size W D (Ow own) H I ((c.ev ρ T).bind fun ls T1 => if is.all fun i => decide (i < ρ.length) then .ok (.nx (setAll ρ is ls)) T1 else .no) := p
      refine ⟨I, ρ, T, own, w, er, (PostS.step (rel := relLs Γ X.s_0.heap.objs.size) p0 Ext.refl).imp fun vs H1 q1 => ?_⟩
      obtain ⟨ls, T1, I1, e1, x1, w1, ⟨ass, r1⟩, p1⟩ := q1
      have hlv : ∀ {ls : List LV} {vs : List V} {ass : List (List Addr)}, RepLs Γ X.s_0.heap.objs.size H H1 I1 ls vs ass → vs.length = ls.length := by
        intro ls
        induction ls with
        | nil => rintro vs ass ⟨rfl, _⟩; rfl
        | cons l ls ih =>
          rintro vs ass ⟨v, us, as, r, rfl, _, _, _, _, h6⟩
          rw [List.length_cons, List.length_cons, ih h6]
      have hl := (hlv r1).trans (c.hlen e1)
      refine ⟨by rw [hl]; exact Nat.le_trans h4' (by decide), fun pa hp => ⟨pa, vs, rfl, SqT.of upd_same, hl.trans h3', gSets_go (hl.trans h3') ?_⟩⟩
      split at p1
      · rename_i hi
        have x2 : Ext O0 H1 I1 (upd H1 pa (.tup vs)) I1 := Ext.new hp _
        have x3 := x1.tr0 x2
        have w3 : Wf Γ (upd H1 pa (.tup vs)) I1 T1 := w1.new hp _
        have er1 := er.ext x3
        have r2 := r1.ext x2
        obtain ⟨own', e3, e4⟩ := storeLs (is := is) er1 r2 (fun i hi2 => of_decide_eq_true (List.all_eq_true.mp hi i hi2)) (fun b hb a ha j hj => (er.free j a hj).2.2 (r2.new b hb a ha))
        exact p1 _ _ _ own' ⟨x3.mono fun _ q => q.elim, w3, e3, fun a ha => (e4 a ha).elim .inl fun ⟨b, hb, q⟩ => .inr (r2.new b hb a q)⟩
      · exact p1.elim
    · cases h
end Tp
end
section
set_option Elab.async false
set_option linter.all false
set_option maxRecDepth 100000
set_option maxHeartbeats 2000000
/-! TqR: for over a zip of two locals' own lists: as cells meanwhile. -/
namespace Tp
open PySem PySem.Spec PyProof.Rows L2
/-! ### data without the later cells -/
mutual
def cfree (n : Nat) : D → Bool
  | .non => true
  | .bl _ => true
  | .int _ => true
  | .str _ => true
  | .lst xs => cfrees n xs
  | .fz xs => cfrees n xs
  | .tup xs => cfrees n xs
  | .dct kvs => cfreeK n kvs
  | .obj _ xs => cfrees n xs
  | .cell m => decide (m < n)
def cfrees (n : Nat) : List D → Bool
  | [] => true
  | x :: xs => cfree n x && cfrees n xs
def cfreeK (n : Nat) : List (Key × D) → Bool
  | [] => true
  | x :: xs => cfree n x.2 && cfreeK n xs
end
section
variable {Γ : Gam} {I : Im} {κ : List Addr}
mutual
theorem Rep.cut (hκ : ∀ (m : Nat), m < κ.length → I.κ[m]? = κ[m]?) : ∀ {d : D} {v : V}, Rep Γ I d v → cfree κ.length d = true → Rep Γ ⟨I.G, κ, I.me⟩ d v
  | .non, v, h, _ => by rw [h.non]; exact .ofNon
  | .bl _, v, h, _ => by rw [h.bl]; exact .ofBl
  | .int _, v, h, _ => by rw [h.int]; exact .ofInt
  | .str _, v, h, _ => by rw [h.str]; exact .ofStr
  | .lst xs, v, h, f => by
    simp only [Rep] at h ⊢
    obtain ⟨a, vs, h1, h2, h3⟩ := h
    exact ⟨a, vs, h1, h2, Reps.cut hκ h3 (by simpa only [cfree] using f)⟩
  | .fz xs, v, h, f => by
    simp only [Rep] at h ⊢
    obtain ⟨a, vs, h1, h2, h3⟩ := h
    exact ⟨a, vs, h1, h2, Reps.cut hκ h3 (by simpa only [cfree] using f)⟩
  | .tup xs, v, h, f => by
    simp only [Rep] at h ⊢
    obtain ⟨a, vs, h1, h2, h3⟩ := h
    exact ⟨a, vs, h1, h2, Reps.cut hκ h3 (by simpa only [cfree] using f)⟩
  | .dct kvs, v, h, f => by
    simp only [Rep] at h ⊢
    obtain ⟨a, o, us, h1, h2, h3⟩ := h
    exact ⟨a, o, us, h1, h2, RepK.cut hκ h3 (by simpa only [cfree] using f)⟩
  | .obj c xs, v, h, f => by
    simp only [Rep] at h ⊢
    obtain ⟨a, dx, us, h1, h2, h3, h4⟩ := h
    exact ⟨a, dx, us, h1, h2, h3, Reps.cut hκ h4 (by simpa only [cfree] using f)⟩
  | .cell m, v, h, f => by
    simp only [Rep] at h ⊢
    obtain ⟨a, h1, h2⟩ := h
    have hm : m < κ.length := by simpa only [cfree, decide_eq_true_eq] using f
    exact ⟨a, h1, by rw [← hκ m hm]; exact h2⟩
theorem Reps.cut (hκ : ∀ (m : Nat), m < κ.length → I.κ[m]? = κ[m]?) : ∀ {ds : List D} {vs : List V}, Reps Γ I ds vs → cfrees κ.length ds = true → Reps Γ ⟨I.G, κ, I.me⟩ ds vs
  | [], vs, h, _ => by simp only [Reps] at h ⊢; exact h
  | x :: xs, vs, h, f => by
    simp only [Reps] at h ⊢
    obtain ⟨v, r, h1, h2, h3⟩ := h
    simp only [cfrees] at f
    obtain ⟨f1, f2⟩ := b2 f
    exact ⟨v, r, h1, Rep.cut hκ h2 f1, Reps.cut hκ h3 f2⟩
theorem RepK.cut (hκ : ∀ (m : Nat), m < κ.length → I.κ[m]? = κ[m]?) : ∀ {ds : List (Key × D)} {vs : List (Key × V)}, RepK Γ I ds vs → cfreeK κ.length ds = true → RepK Γ ⟨I.G, κ, I.me⟩ ds vs
  | [], vs, h, _ => by simp only [RepK] at h ⊢; exact h
  | x :: xs, vs, h, f => by
    simp only [RepK] at h ⊢
    obtain ⟨v, r, h1, h2, h3⟩ := h
    simp only [cfreeK] at f
    obtain ⟨f1, f2⟩ := b2 f
    exact ⟨v, r, h1, Rep.cut hκ h2 f1, RepK.cut hκ h3 f2⟩
end
def cfreeL (n : Nat) : LV → Bool
  | .sh d => cfree n d
  | .ow xs => cfrees n xs
  | .od kvs => cfreeK n kvs
  | .oo _ xs => cfrees n xs
  | .zp _ _ => false
def cfreeO (n : Nat) : Option LV → Bool
  | some lv => cfreeL n lv
  | none => true
def cfreeE (n : Nat) (ρ : Env) : Bool := ρ.all (cfreeO n)
theorem RepL.cut {n : Nat} {H : Hp} (hκ : ∀ (m : Nat), m < κ.length → I.κ[m]? = κ[m]?) : ∀ {lv : LV} {v : V} {as : List Addr}, RepL Γ n I H lv v as → cfreeL κ.length lv = true → RepL Γ n ⟨I.G, κ, I.me⟩ H lv v as
  | .sh d, _, _, h, f => ⟨h.1, Rep.cut hκ h.2 f⟩
  | .ow _, _, _, h, f => by
    obtain ⟨a, vs, h1, h2, h3, h4⟩ := h
    exact ⟨a, vs, h1, h2, h3, Reps.cut hκ h4 f⟩
  | .od _, _, _, h, f => by
    obtain ⟨a, vs, h1, h2, h3, h4⟩ := h
    exact ⟨a, vs, h1, h2, h3, RepK.cut hκ h4 f⟩
  | .oo _ _, _, _, h, f => by
    obtain ⟨a, dx, vs, h1, h2, h0, h3, h4, h5⟩ := h
    exact ⟨a, dx, vs, h1, h2, h0, h3, h4, Reps.cut hκ h5 f⟩
  | .zp _ _, _, _, _, f => by cases f
end
/-! ### turn by turn, the cells as they are then -/
def liveEv (g : D → Env → Cs → Ev Env) (b : Env → Cs → Ev Fl) (m : Nat) : Nat → Nat → Env → Cs → Ev Env
  | 0, _, _, _ => .no
  | f + 1, k, ρ, T => match T[m]?, T[m + 1]? with
    | some xs, some ys => (match xs[k]?, ys[k]? with
      | some x, some y => (g (.tup [x, y]) ρ T).bind fun ρ1 T1 => (b ρ1 T1).bind fun fl T2 => (match fl with
        | .nx ρ' => liveEv g b m f (k + 1) ρ' T2
        | .ct ρ' => liveEv g b m f (k + 1) ρ' T2
        | _ => .no)
      | _, _ => .ok ρ T)
    | _, _ => .no
def unlend (i j m : Nat) (ρ : Env) (T : Cs) : Ev Fl := match ρ[i]?, ρ[j]?, T[m]?, T[m + 1]? with
  | some (some (.sh (.cell p))), some (some (.sh (.cell q))), some xs, some ys =>
    if (decide (p = m) && decide (q = m + 1)) && ((T.take m).all (cfrees m) && cfreeE m ((ρ.set i (some (.ow xs))).set j (some (.ow ys)))) then .ok (.nx ((ρ.set i (some (.ow xs))).set j (some (.ow ys)))) (T.take m) else .no
  | _, _, _, _ => .no
def lendK (i j m : Nat) : Ev Env → Ev Fl
  | .ok ρ T => unlend i j m ρ T
  | _ => .no
section
variable {Γ : Gam} {n : Nat}
theorem Ext.kappa {O : Addr → Prop} {H H' : Hp} {I I' : Im} (x : Ext O H I H' I') {m : Nat} (hm : m < I.κ.length) : I'.κ[m]? = I.κ[m]? := by
  have e : I.κ[m]? = some I.κ[m] := by simp [hm]
  rw [x.kk m _ e, e]
/-- two own lists become cells -/
theorem lend2 {H : Hp} {I : Im} {T : Cs} {σ : L2.St} {ρ : Env} {own : Nat → List Addr} {i j : Nat} {xs ys : List D} (w : Wf Γ H I T) (er : ER Γ n σ ρ H I own) (hi : ρ[i]? = some (some (.ow xs))) (hj : ρ[j]? = some (some (.ow ys))) (hij : i ≠ j) :
    ∃ a b, σ[i]? = some (some (.ref a)) ∧ σ[j]? = some (some (.ref b)) ∧ own i = [a] ∧ own j = [b] ∧ a ≠ b ∧ a ∉ I.κ ∧ b ∉ I.κ ∧
      Wf Γ H ⟨I.G, I.κ ++ [a, b], I.me⟩ (T ++ [xs, ys]) ∧ ER Γ n σ ((ρ.set i (some (.sh (.cell T.length)))).set j (some (.sh (.cell (T.length + 1))))) H ⟨I.G, I.κ ++ [a, b], I.me⟩ (fun k => if k = i ∨ k = j then [] else own k) := by
  obtain ⟨a, vs, o1, s1, h1, r1⟩ := own_list er hi
  obtain ⟨b, us, o2, s2, h2, r2⟩ := own_list er hj
  obtain ⟨ga, ka, na⟩ := er.free i a (by rw [o1]; simp)
  obtain ⟨gb, kb, nb⟩ := er.free j b (by rw [o2]; simp)
  have hab : a ≠ b := fun e => hij (er.disj i j a (by rw [o1]; simp) (by rw [o2, e]; simp))
  have le : Im.Le I ⟨I.G, I.κ ++ [a, b], I.me⟩ := ⟨fun _ _ h => h, fun m c h => by
    show (I.κ ++ [a, b])[m]? = some c
    rw [List.getElem?_append_left (List.getElem?_eq_some_iff.mp h).1]
    exact h, rfl⟩
  have hi' := (List.getElem?_eq_some_iff.mp hi).1
  have hj' := (List.getElem?_eq_some_iff.mp hj).1
  refine ⟨a, b, s1, s2, o1, o2, hab, ka, kb, ⟨w.gh, ?_, fun c hc => ?_, by simp [w.len], fun m c ds e1 e2 => ?_⟩, ⟨?_, fun k lv hk => ?_, fun k hk => ?_, fun k c hc => ?_, fun k l c h1 h2 => ?_⟩⟩
  · refine List.nodup_append.mpr ⟨w.nd, by simp [hab], fun c hc c' hc' z => ?_⟩
    rcases List.mem_cons.mp hc' with e | e
    · rw [z, e] at hc; exact ka hc
    · rw [List.mem_singleton] at e; rw [z, e] at hc; exact kb hc
  · rcases List.mem_append.mp hc with hc | hc
    · exact w.kg c hc
    · rcases List.mem_cons.mp hc with e | e
      · rw [e]; exact ga
      · rw [List.mem_singleton] at e; rw [e]; exact gb
  · have e1' : (I.κ ++ [a, b])[m]? = some c := e1
    by_cases hm : m < T.length
    · rw [List.getElem?_append_left (by rw [w.len]; exact hm)] at e1'
      rw [List.getElem?_append_left hm] at e2
      obtain ⟨vs, q1, q2⟩ := w.cells m c ds e1' e2
      exact ⟨vs, q1, q2.mono le⟩
    · rw [List.getElem?_append_right (by rw [w.len]; omega), w.len] at e1'
      rw [List.getElem?_append_right (by omega)] at e2
      match h : m - T.length with
      | 0 => rw [h] at e1' e2; cases e1'; cases e2; exact ⟨vs, h1, r1.mono le⟩
      | 1 => rw [h] at e1' e2; cases e1'; cases e2; exact ⟨us, h2, r2.mono le⟩
      | q + 2 => rw [h] at e1'; cases e1'
  · simp [er.len]
  · by_cases ej : k = j
    · subst ej
      rw [List.getElem?_set_self (by rw [List.length_set]; exact hj')] at hk
      cases hk
      refine ⟨_, s2, by simp, ?_⟩
      simp only [Rep]
      exact ⟨b, rfl, by rw [List.getElem?_append_right (by rw [w.len]; omega), w.len]; simp⟩
    · rw [List.getElem?_set_ne (fun e => ej e.symm)] at hk
      by_cases ei : k = i
      · subst ei
        rw [List.getElem?_set_self hi'] at hk
        cases hk
        refine ⟨_, s1, by simp, ?_⟩
        simp only [Rep]
        exact ⟨a, rfl, by rw [List.getElem?_append_right (by rw [w.len]; omega), w.len]; simp⟩
      · rw [List.getElem?_set_ne (fun e => ei e.symm)] at hk
        obtain ⟨v, q1, q2⟩ := er.at_ k lv hk
        refine ⟨v, q1, ?_⟩
        rw [if_neg (by simp [ei, ej])]
        exact q2.ext le fun _ _ _ h => h
  · by_cases e : k = i ∨ k = j
    · exact if_pos e
    · rw [if_neg e]
      refine er.dead k fun lv z => hk lv ?_
      rw [List.getElem?_set_ne (fun q => e (.inr q.symm)), List.getElem?_set_ne (fun q => e (.inl q.symm))]
      exact z
  · by_cases e : k = i ∨ k = j
    · rw [if_pos e] at hc; cases hc
    · rw [if_neg e] at hc
      obtain ⟨q1, q2, q3⟩ := er.free k c hc
      refine ⟨q1, fun z => ?_, q3⟩
      rcases List.mem_append.mp z with z | z
      · exact q2 z
      · rcases List.mem_cons.mp z with z | z
        · exact e (.inl (er.disj k i c hc (by rw [o1, z]; simp)))
        · rw [List.mem_singleton] at z
          exact e (.inr (er.disj k j c hc (by rw [o2, z]; simp)))
  · by_cases e : k = i ∨ k = j
    · rw [if_pos e] at h1; cases h1
    · by_cases e' : l = i ∨ l = j
      · rw [if_pos e'] at h2; cases h2
      · rw [if_neg e] at h1
        rw [if_neg e'] at h2
        exact er.disj k l c h1 h2
end
def isZip2 (sc : Sc) (i j : Nat) : Expr → Bool
  | .Call (.Name z _) [.Name x _, .Name y _] [] _ => decide (z = ("zip" : Str)) && (isGl sc.nm z && (isVar sc i x && isVar sc j y))
  | _ => false
/-- for .. in zip(x, y), x and y own lists -/
def sForZ (t : CG) (i j : Nat) (b : CS) : C1 where
  ev := fun ρ T => match ρ[i]?, ρ[j]? with
    | some (some (.ow xs)), some (some (.ow ys)) => if i = j then .no else
      lendK i j T.length (liveEv t.ev b.ev T.length (xs.length + 1) 0 ((ρ.set i (some (.sh (.cell T.length)))).set j (some (.sh (.cell (T.length + 1))))) (T ++ [xs, ys]))
    | _, _ => .no
  chk := fun k sc st => match st with
    | .For tg e body [] _ => isTupE tg && (t.chk k sc tg && (isZip2 sc i j e && b.chk k sc body))
    | _ => false
  need := fun Γ => t.need Γ ∧ Γ.mg "zip" = none ∧ b.need Γ
  ok := by
    intro Γ k W sc X st g nd h
    split at h
    · rename_i tg e body pos
      obtain ⟨ht, h⟩ := b2 h
      obtain ⟨h1, h⟩ := b2 h
      obtain ⟨h2, h3⟩ := b2 h
      have htg : ∃ elts kk tpos, tg = .Tuple elts kk tpos := by
        cases tg <;> first | exact ⟨_, _, _, rfl⟩ | cases ht
      obtain ⟨elts, kk, tpos, rfl⟩ := htg
      unfold isZip2 at h2
      split at h2
      · rename_i z zp x xp y yp cp
        obtain ⟨z1, h2⟩ := b2 h2
        obtain ⟨z2, h2⟩ := b2 h2
        obtain ⟨z3, z4⟩ := b2 h2
        have hz := of_decide_eq_true z1
        subst hz
        obtain ⟨tt, pt, kt⟩ := t.ok (n := X.s_0.heap.objs.size) g nd.1 h1 fun _ => rfl
        refine PS.mono (ps_for g.po g.calm (pi_zip (isGl_ok g.nm z2) (by rw [g.mg]; exact nd.2.1) (pa_cons (isVar_ok g z3) (pa_cons (isVar_ok g z4) pa_nil (by rfl)) (by rfl)) (by rfl) (by rfl)) pt (b.ok g nd.2.2 h3) (fun _ => rfl)) fun D σ H q => ?_
        obtain ⟨I, ρ, T, own, w, er, p⟩ := q
        have p0 : PostS Γ X.s_0.heap.objs.size W D (Ow own) H I (match ρ[i]?, ρ[j]? with
          | some (some (.ow xs)), some (some (.ow ys)) => if i = j then .no else
            lendK i j T.length (liveEv t.ev b.ev T.length (xs.length + 1) 0 ((ρ.set i (some (.sh (.cell T.length)))).set j (some (.sh (.cell (T.length + 1))))) (T ++ [xs, ys]))
          | _, _ => .no) := p
        split at p0
        · rename_i xs ys e1 e2
          split at p0
          · exact p0.elim
          rename_i hij
          obtain ⟨a, c, s1, s2, o1, o2, hac, ka, kc, w0, er0⟩ := lend2 w er e1 e2 hij
          obtain ⟨a', vs0, q1, s1', h1', _⟩ := own_list er e1
          obtain ⟨c', us0, q2, s2', h2', _⟩ := own_list er e2
          rw [s1] at s1'; cases s1'
          rw [s2] at s2'; cases s2'
          have hi' := (List.getElem?_eq_some_iff.mp e1).1
          have hj' := (List.getElem?_eq_some_iff.mp e2).1
          cases e3 : liveEv t.ev b.ev T.length (xs.length + 1) 0 ((ρ.set i (some (.sh (.cell T.length)))).set j (some (.sh (.cell (T.length + 1))))) (T ++ [xs, ys]) with
          | no => rw [e3] at p0; exact p0.elim
          | ex x T' => rw [e3] at p0; exact p0.elim
          | ok ρF TF =>
            rw [e3] at p0
            have p1 : PostS Γ X.s_0.heap.objs.size W D (Ow own) H I (unlend i j T.length ρF TF) := p0
            let own0 : Nat → List Addr := fun k => if k = i ∨ k = j then [] else own k
            have o00 : ∀ d, Ow own0 d → Ow own d := fun d ⟨k, hk⟩ => by
              have hk' : d ∈ (if k = i ∨ k = j then [] else own k) := hk
              split at hk'
              · cases hk'
              · exact ⟨k, hk'⟩
            have k0 : (I.κ ++ [a, c])[T.length]? = some a := by rw [List.getElem?_append_right (by rw [w.len]; exact Nat.le_refl _), w.len, Nat.sub_self]; rfl
            have k1 : (I.κ ++ [a, c])[T.length + 1]? = some c := by rw [List.getElem?_append_right (by rw [w.len]; omega), w.len, show T.length + 1 - T.length = 1 by omega]; rfl
            refine ⟨_, s1, _, s2, a, c, vs0, us0, rfl, SqL.of h1', SqL.of h2', fun k m σ' H' => ∃ I' ρ' T' own', Ext (Ow own0) H ⟨I.G, I.κ ++ [a, c], I.me⟩ H' I' ∧ (∀ d, Ow own' d → Ow own0 d ∨ H d = none) ∧ Wf Γ H' I' T' ∧
              ER Γ X.s_0.heap.objs.size σ' ρ' H' I' own' ∧ liveEv t.ev b.ev T.length m k ρ' T' = .ok ρF TF, ⟨xs.length + 1, ⟨I.G, I.κ ++ [a, c], I.me⟩, _, _, own0, Ext.refl, fun d hd => .inl hd, w0, er0, e3⟩, ?_⟩
            rintro k m σ' H' ⟨I', ρ', T', own', x', ow', w', er', e'⟩
            cases m with
            | zero => cases e'
            | succ f =>
              have ka' : I'.κ[T.length]? = some a := x'.kk _ _ k0
              have kc' : I'.κ[T.length + 1]? = some c := x'.kk _ _ k1
              unfold liveEv at e'
              split at e'
              · rename_i xs' ys' t1 t2
                obtain ⟨vs', g1, r1⟩ := w'.cells _ a xs' ka' t1
                obtain ⟨us', g2, r2⟩ := w'.cells _ c ys' kc' t2
                split at e'
                · rename_i dx dy u1 u2
                  obtain ⟨v1, v2, v3⟩ := r1.get u1
                  obtain ⟨v4, v5, v6⟩ := r2.get u2
                  refine .inr ⟨⟨vs', us', v1, v4, SqL.of g1, SqL.of g2, v2, v5⟩, fun σ2 H2 => ∃ I' ρ' T' own', Ext (Ow own0) H ⟨I.G, I.κ ++ [a, c], I.me⟩ H2 I' ∧ (∀ d, Ow own' d → Ow own0 d ∨ H d = none) ∧ Wf Γ H2 I' T' ∧
                    ER Γ X.s_0.heap.objs.size σ2 ρ' H2 I' own' ∧ liveEv t.ev b.ev T.length f (k + 1) ρ' T' = .ok ρF TF, fun σ2 H2 z => ⟨f, Nat.lt_succ_self f, z⟩, fun xv H2 y => ?_⟩
                  obtain ⟨pt', x1, y1, rfl, hp, rfl, z3, z4⟩ := y
                  have zz1 := z3 vs' (SqL.of g1)
                  have zz2 := z4 us' (SqL.of g2)
                  rw [v2] at zz1; cases zz1
                  rw [v5] at zz2; cases zz2
                  obtain ⟨I2, x2, w2, r2'⟩ := newTup w' hp (Reps.cons v3 (Reps.cons v6 Reps.nil))
                  refine kt σ' _ I2 ρ' T' own' (.tup [dx, dy]) (.ref pt') _ w2 (er'.ext x2) r2' ?_
                  cases e4 : t.ev (.tup [dx, dy]) ρ' T' with
                  | no => rw [e4] at e'; cases e'
                  | ex x T'' => rw [e4] at e'; cases e'
                  | ok ρ1 T3 =>
                    rw [e4] at e'
                    intro σ3 H3 I3 own3 af _ _
                    refine ⟨I3, ρ1, T3, own3, af.wf, af.er, ?_⟩
                    have x23 : Ext (Ow own0) H ⟨I.G, I.κ ++ [a, c], I.me⟩ H3 I3 := (x'.trans (x2.mono fun _ q => q.elim) (fun _ h => h) fun _ h => .inl h).trans af.ext (fun _ h => h) ow'
                    have th2 : ∀ d, H3 d = none → H d = none := fun d hd => by
                      cases q : H d with
                      | none => rfl
                      | some o => exact absurd hd (x23.th d (by rw [q]; simp))
                    have th0 : ∀ d, (upd H' pt' (HO.tup [v1, v4])) d = none → H d = none := fun d hd => by
                      cases q : H d with
                      | none => rfl
                      | some o => exact absurd hd (x2.th d (x'.th d (by rw [q]; simp)))
                    have ow3 : ∀ d, Ow own3 d → Ow own0 d ∨ H d = none := fun d hd => (af.ow d hd).elim (ow' d) fun z => .inr (th0 d z)
                    show PostS Γ X.s_0.heap.objs.size W _ (Ow own3) H3 I3 (b.ev ρ1 T3)
                    have e5 : (b.ev ρ1 T3).bind (fun fl T2 => (match fl with
                        | .nx ρ' => liveEv t.ev b.ev T.length f (k + 1) ρ' T2
                        | .ct ρ' => liveEv t.ev b.ev T.length f (k + 1) ρ' T2
                        | _ => .no)) = .ok ρF TF := e'
                    cases e6 : b.ev ρ1 T3 with
                    | no => rw [e6] at e5; cases e5
                    | ex x T'' => rw [e6] at e5; cases e5
                    | ok fl T4 =>
                      rw [e6] at e5
                      cases fl with
                      | nx ρ4 => exact fun σ4 H4 I4 own4 af4 => ⟨I4, ρ4, T4, own4, x23.trans af4.ext (fun _ h => h) ow3, fun d hd => (af4.ow d hd).elim (ow3 d) fun z => .inr (th2 d z), af4.wf, af4.er, e5⟩
                      | ct ρ4 => exact fun σ4 H4 I4 own4 af4 => ⟨I4, ρ4, T4, own4, x23.trans af4.ext (fun _ h => h) ow3, fun d hd => (af4.ow d hd).elim (ow3 d) fun z => .inr (th2 d z), af4.wf, af4.er, e5⟩
                      | bk ρ4 => cases e5
                      | rt lv => cases e5
                · rename_i hno
                  cases e'
                  have hlen : vs'.length ≤ k ∨ us'.length ≤ k := by
                    rw [r1.length, r2.length]
                    apply Classical.byContradiction
                    intro hn
                    have a1 : k < xs'.length := by omega
                    have a2 : k < ys'.length := by omega
                    exact hno xs'[k] ys'[k] (List.getElem?_eq_getElem a1) (List.getElem?_eq_getElem a2)
                  refine .inl ⟨⟨vs', us', SqL.of g1, SqL.of g2, hlen⟩, ?_⟩
                  unfold unlend at p1
                  split at p1
                  · rename_i pc qc xf yf f1 f2 f3 f4
                    rw [t1] at f3; cases f3
                    rw [t2] at f4; cases f4
                    split at p1
                    · rename_i hc
                      obtain ⟨c1, c2⟩ := b2 hc
                      obtain ⟨c1a, c1b⟩ := b2 c1
                      obtain ⟨c2a, c2b⟩ := b2 c2
                      have hp := of_decide_eq_true c1a
                      have hq := of_decide_eq_true c1b
                      subst hp hq
                      have hκ : ∀ (m : Nat), m < I.κ.length → I'.κ[m]? = I.κ[m]? := fun m hm => by
                        have e0 : (I.κ ++ [a, c])[m]? = some I.κ[m] := by rw [List.getElem?_append_left hm]; simp [hm]
                        rw [x'.kk m _ e0]; simp [hm]
                      have kin : ∀ d, d ∈ I.κ → d ∈ I'.κ := fun d hd => by
                        obtain ⟨m, hm, e⟩ := List.getElem_of_mem hd
                        have := hκ m hm
                        rw [List.getElem?_eq_getElem hm, e] at this
                        exact List.mem_of_getElem? this
                      have am : a ∈ I'.κ := List.mem_of_getElem? ka'
                      have cm : c ∈ I'.κ := List.mem_of_getElem? kc'
                      have wl := w.len
                      have w2 : Wf Γ H' ⟨I'.G, I.κ, I'.me⟩ (TF.take T.length) := by
                        refine ⟨w'.gh, w.nd, fun d hd => w'.kg d (kin d hd), ?_, fun m d ds z1 z2 => ?_⟩
                        · have := w'.len
                          have h9 := (List.getElem?_eq_some_iff.mp t1).1
                          show I.κ.length = _
                          rw [List.length_take]; omega
                        · have hm : m < I.κ.length := (List.getElem?_eq_some_iff.mp z1).1
                          have z3 : TF[m]? = some ds := by rw [List.getElem?_take_of_lt (by omega)] at z2; exact z2
                          obtain ⟨vs, y1, y2⟩ := w'.cells m d ds (by rw [hκ m hm]; exact z1) z3
                          have cf := List.all_eq_true.mp c2a ds (List.mem_of_getElem? z2)
                          rw [← wl] at cf
                          exact ⟨vs, y1, Reps.cut hκ y2 cf⟩
                      have el := er'.len
                      have if_ := (List.getElem?_eq_some_iff.mp f1).1
                      have jf_ := (List.getElem?_eq_some_iff.mp f2).1
                      obtain ⟨va, sa, ra⟩ := er'.at_ i _ f1
                      obtain ⟨vc, sc', rc⟩ := er'.at_ j _ f2
                      have ra' := ra.2
                      have rc' := rc.2
                      simp only [Rep] at ra' rc'
                      obtain ⟨a2, rfl, ka2⟩ := ra'
                      obtain ⟨c2', rfl, kc2⟩ := rc'
                      rw [ka'] at ka2; cases ka2
                      rw [kc'] at kc2; cases kc2
                      have slot : ∀ k lv, ((ρF.set i (some (.ow xs'))).set j (some (.ow ys')))[k]? = some (some lv) → cfreeL T.length lv = true := fun k lv hk => by
                        have := List.all_eq_true.mp c2b _ (List.mem_of_getElem? hk)
                        exact this
                      have si : ((ρF.set i (some (.ow xs'))).set j (some (.ow ys')))[i]? = some (some (.ow xs')) := by rw [List.getElem?_set_ne (fun e => hij e.symm), List.getElem?_set_self if_]
                      have sj : ((ρF.set i (some (.ow xs'))).set j (some (.ow ys')))[j]? = some (some (.ow ys')) := by rw [List.getElem?_set_self (by rw [List.length_set]; exact jf_)]
                      have cx : cfrees I.κ.length xs' = true := by rw [wl]; exact slot i _ si
                      have cy : cfrees I.κ.length ys' = true := by rw [wl]; exact slot j _ sj
                      have er2 : ER Γ X.s_0.heap.objs.size σ' ((ρF.set i (some (.ow xs'))).set j (some (.ow ys'))) H' ⟨I'.G, I.κ, I'.me⟩ (fun k => if k = i then [a] else if k = j then [c] else own' k) := by
                        refine ⟨by rw [List.length_set, List.length_set]; exact el, fun k lv hk => ?_, fun k hk => ?_, fun k d hd => ?_, fun k l d hd1 hd2 => ?_⟩
                        · by_cases ei : k = i
                          · subst ei
                            rw [si] at hk; cases hk
                            rw [if_pos rfl]
                            exact ⟨_, sa, a, vs', rfl, rfl, g1, Reps.cut hκ r1 cx⟩
                          · by_cases ej : k = j
                            · subst ej
                              rw [sj] at hk; cases hk
                              rw [if_neg ei, if_pos rfl]
                              exact ⟨_, sc', c, us', rfl, rfl, g2, Reps.cut hκ r2 cy⟩
                            · have cf := slot k lv hk
                              rw [List.getElem?_set_ne (fun e => ej e.symm), List.getElem?_set_ne (fun e => ei e.symm)] at hk
                              obtain ⟨v, y1, y2⟩ := er'.at_ k lv hk
                              rw [if_neg ei, if_neg ej]
                              rw [← wl] at cf
                              exact ⟨v, y1, RepL.cut hκ y2 cf⟩
                        · by_cases ei : k = i
                          · exact absurd (by rw [ei]; exact si) (hk (.ow xs'))
                          · by_cases ej : k = j
                            · exact absurd (by rw [ej]; exact sj) (hk (.ow ys'))
                            · rw [if_neg ei, if_neg ej]
                              refine er'.dead k fun lv z => hk lv ?_
                              rw [List.getElem?_set_ne (fun e => ej e.symm), List.getElem?_set_ne (fun e => ei e.symm)]
                              exact z
                        · by_cases ei : k = i
                          · rw [if_pos ei] at hd
                            rw [List.mem_singleton.mp hd]
                            exact ⟨w'.kg a am, ka, by rw [g1]; simp⟩
                          · rw [if_neg ei] at hd
                            by_cases ej : k = j
                            · rw [if_pos ej] at hd
                              rw [List.mem_singleton.mp hd]
                              exact ⟨w'.kg c cm, kc, by rw [g2]; simp⟩
                            · rw [if_neg ej] at hd
                              obtain ⟨y1, y2, y3⟩ := er'.free k d hd
                              exact ⟨y1, fun z => y2 (kin d z), y3⟩
                        · have cls : ∀ k d, d ∈ (if k = i then [a] else if k = j then [c] else own' k) → (k = i ∧ d = a) ∨ (k = j ∧ d = c) ∨ (d ∈ own' k ∧ d ≠ a ∧ d ≠ c) := fun k d hd => by
                            by_cases ei : k = i
                            · rw [if_pos ei] at hd; exact .inl ⟨ei, List.mem_singleton.mp hd⟩
                            · rw [if_neg ei] at hd
                              by_cases ej : k = j
                              · rw [if_pos ej] at hd; exact .inr (.inl ⟨ej, List.mem_singleton.mp hd⟩)
                              · rw [if_neg ej] at hd
                                obtain ⟨y1, y2, y3⟩ := er'.free k d hd
                                exact .inr (.inr ⟨hd, fun z => y2 (by rw [z]; exact am), fun z => y2 (by rw [z]; exact cm)⟩)
                          rcases cls k d hd1 with ⟨h1, h2⟩ | ⟨h1, h2⟩ | ⟨h1, h2, h3⟩
                          · rcases cls l d hd2 with ⟨h4, h5⟩ | ⟨h4, h5⟩ | ⟨h4, h5, h6⟩
                            · rw [h1, h4]
                            · exact absurd (h2.symm.trans h5) hac
                            · exact absurd h2 h5
                          · rcases cls l d hd2 with ⟨h4, h5⟩ | ⟨h4, h5⟩ | ⟨h4, h5, h6⟩
                            · exact absurd (h5.symm.trans h2) hac
                            · rw [h1, h4]
                            · exact absurd h2 h6
                          · rcases cls l d hd2 with ⟨h4, h5⟩ | ⟨h4, h5⟩ | ⟨h4, h5, h6⟩
                            · exact absurd h5 h2
                            · exact absurd h5 h3
                            · exact er'.disj k l d h1 h4
                      have oa : Ow own a := ⟨i, by rw [o1]; simp⟩
                      have oc : Ow own c := ⟨j, by rw [o2]; simp⟩
                      refine p1 σ' H' ⟨I'.G, I.κ, I'.me⟩ _ ⟨⟨x'.gg, fun _ _ h => h, fun d o hd nk no => ?_, x'.th, fun d hd => ?_, fun d hd => .inl hd, x'.mm⟩, w2, er2, fun d ⟨k, hd⟩ => ?_⟩
                      · refine x'.fr d o hd (fun z => ?_) fun z => no (o00 d z)
                        rcases List.mem_append.mp z with z | z
                        · exact nk z
                        · rcases List.mem_cons.mp z with z | z
                          · exact no (by rw [z]; exact oa)
                          · rw [List.mem_singleton] at z
                            exact no (by rw [z]; exact oc)
                      · rcases x'.gn d hd with z | z | z
                        · exact .inl z
                        · exact .inr (.inl z)
                        · exact .inr (.inr (o00 d z))
                      · have hd' : d ∈ (if k = i then [a] else if k = j then [c] else own' k) := hd
                        split at hd'
                        · rw [List.mem_singleton.mp hd']; exact .inl oa
                        · split at hd'
                          · rw [List.mem_singleton.mp hd']; exact .inl oc
                          · rcases ow' d ⟨k, hd'⟩ with z | z
                            · exact .inl (o00 d z)
                            · exact .inr z
                    · exact p1.elim
                  · exact p1.elim
              · cases e'
        · exact p0.elim
      · cases h2
    · cases h
end Tp
end
section
set_option Elab.async false
set_option linter.all false
set_option maxRecDepth 100000
set_option maxHeartbeats 2000000
/-! TqT: any(..) of ints. -/
namespace Tp
open PySem PySem.Spec PyProof.Rows L2
theorem ints_at {its : List Value} {ns : List Int} (e : IntsAre its ns) : ∀ {i : Nat} {v : Value}, its[i]? = some v → ∃ n t, v = .int n t ∧ ns.getD i 0 = n := by
  induction e with
  | nil => intro i v h; simp at h
  | cons n t _ ih =>
    intro i v h
    cases i with
    | zero => simp at h; exact ⟨n, t, h.symm, rfl⟩
    | succ i =>
      obtain ⟨m, u, h1, h2⟩ := ih (i := i) (v := v) (by simpa using h)
      exact ⟨m, u, h1, by simpa using h2⟩
theorem ints_len {its : List Value} {ns : List Int} (e : IntsAre its ns) : its.length = ns.length := by
  induction e with
  | nil => rfl
  | cons n t _ ih => rw [List.length_cons, List.length_cons, ih]
theorem truth_ints {prog : Program} {w : World} {A : Around} {ns : List Int} {its : List Value} (e : IntsAre its ns) :
    TruthOf prog w A (fun i v => its.toArray[i]? = some v) (fun i => ns.getD i 0 != 0) := fun i v s Q E hv hq => by
  have hv' : its[i]? = some v := by simpa using hv
  obtain ⟨n, t, rfl, h2⟩ := ints_at e hv'
  have hq' : Q (ns.getD i 0 != 0) s := hq
  rw [h2] at hq'
  exact PyProof.Rows.truthy_int hq'
def rAnyI (K : PySem.W.Frag) : List V → Hp → VK → Prop := fun vs H Q => ∃ (a : Addr) (ns : List Int), vs = [V.ref a] ∧ SqL K H a (ns.map V.int) ∧ Q (.bl (ns.any fun n => n != 0)) H
theorem any_rangeI (ns : List Int) : (List.range ns.length).any (fun i => ns.getD i 0 != 0) = ns.any fun n => n != 0 := by
  have e := any_range (ns.map fun n => n != 0)
  rw [List.length_map, List.any_map] at e
  have e2 : (fun i => (ns.map fun n => n != 0).getD i false) = fun i => ns.getD i 0 != 0 := funext fun i => by
    rw [List.getD_eq_getElem?_getD, List.getD_eq_getElem?_getD, List.getElem?_map]
    cases ns[i]? <;> rfl
  rw [e2] at e
  exact e
theorem cr_anyI {X : Cx} (hc : X.calm = true) : CallR X (.builtin "any") (rAnyI X.K) := by
  intro pins s σ H vs us Q I r h
  obtain ⟨a, ns, rfl, hs, q⟩ := h
  obtain ⟨its, rv, hl, _⟩ := I.list hs
  rw [Vals.ref1 r]
  have hb := rv.ints
  have hlen := ints_len hb
  refine call_any_walk (iter_any hl.isList fun s₂ e2 st hne => ?_)
  subst e2
  refine ⟨_, _, _, _, _, _, _, rfl, Walks.list (A := X.A.in1) (I.ok.hd hc) _ a hne its.toArray, st, truth_ints hb, fun h' tk hk => ?_⟩
  refine ⟨.bl _, H, I.kept fun b o eo => hk b o (fun hmem => ?_) (Heap.get?_push_of_some _ eo), ?_, q⟩
  · rcases List.mem_cons.mp hmem with e1 | hmem
    · exact absurd (e1 ▸ Heap.lt_size eo) (Nat.lt_irrefl _)
    · cases hmem
  · show Value.bool _ = Value.bool _
    rw [← any_rangeI, List.size_toArray, hlen]
def gAnyI (a : R) : Option R := match rLs2 a with
  | some xs => (intsOf xs).map fun ns => rB (ns.any fun n => n != 0)
  | none => none
def bAnyI : Blt := bltF "any" "any" (f1 gAnyI) PyProof.Rows.boot_any fun {Γ k W sc X n} g => by
  refine CallR.mono (cr_anyI g.calm) (rdN_one (fun _ _ => f1_one) fun H I T own Hs a c x Q w ra e q => ?_)
  have e1 : gAnyI a = some c := e
  unfold gAnyI at e1
  split at e1
  · rename_i xs e0
    obtain ⟨ns, e2, rfl⟩ := Option.map_eq_some_iff.mp e1
    obtain ⟨p, vs, rfl, p1, p2⟩ := rLs2_ok w e0 ra
    rw [intsOf_ok e2] at p2
    rw [p2.ints] at p1
    exact ⟨p, ns, rfl, by rw [g.K]; exact p1, give_val w .ofBl q⟩
  · cases e1
end Tp
end
section
set_option Elab.async false
set_option linter.all false
set_option maxRecDepth 100000
set_option maxHeartbeats 2000000
/-! TqU: e.append(x): of a new list, dropped behind; of a cell. -/
namespace Tp
open PySem PySem.Spec PyProof.Rows L2
def noSup2 : Expr → Bool
  | .Call (.Attribute ..) _ _ _ => true
  | e => noSup e
theorem noSup2_ok {o : Expr} (h : noSup2 o = true) (f : Str) (env : PySem.Env) : attributeBase o f env (eval o env) = eval o env := by
  unfold noSup2 at h
  split at h
  · rfl
  · exact noSup_ok h f env
def sAppE (o a : CE) : C1 where
  ev := fun ρ T => (o.ev ρ T).bind fun r T1 => match r with
    | .v (.ow xs) => (evD a.ev ρ T1).bind fun _ T2 => if xs.length < lim then .ok (.nx ρ) T2 else .no
    | .v (.sh (.cell m)) => (evD a.ev ρ T1).bind fun d T2 => (match T2[m]? with
      | some xs => if xs.length < lim then .ok (.nx ρ) (T2.set m (xs ++ [d])) else .no
      | none => .no)
    | _ => .no
  chk := fun k sc st => match st with
    | .Expr (.Call (.Attribute y m ap) [e] [] cp) _ => decide (m = ("append" : Str)) && ((ap.endLine == cp.line) && (noSup2 y && (o.chk k sc y && (notStar e && a.chk k sc e))))
    | _ => false
  need := fun Γ => o.need Γ ∧ a.need Γ
  ok := by
    intro Γ k W sc X st g nd h
    split at h
    · obtain ⟨h1, h⟩ := b2 h
      obtain ⟨hl, h⟩ := b2 h
      obtain ⟨hsup, h⟩ := b2 h
      obtain ⟨h2, h⟩ := b2 h
      obtain ⟨h3, h4⟩ := b2 h
      have hm := of_decide_eq_true h1
      subst hm
      refine PS.mono (ps_expr (pe_bm PySem.F.plainAttrs_list PySem.F.slot_list_append PySem.F.type_list_append mt_append (o.ok (n := X.s_0.heap.objs.size) g nd.1 h2 fun _ => rfl) (pa_cons (a.ok (n := X.s_0.heap.objs.size) g nd.2 h4 fun _ => rfl) pa_nil (star_cons h3)) (noSup2_ok hsup _ _) (by rw [star_cons h3]; rfl) hl (star_cons h3) rfl) rfl) fun D σ H q => ?_
      obtain ⟨I, ρ, T, own, w, er, p⟩ := q
      refine ⟨I, ρ, T, own, w, er, (PostS.step (rel := RepR Γ X.s_0.heap.objs.size own) (show PostS Γ X.s_0.heap.objs.size W D (Ow own) H I ((o.ev ρ T).bind _) from p) Ext.refl).imp fun x H1 q1 => ?_⟩
      obtain ⟨r, T1, I1, _, x1, w1, r1, p1⟩ := q1
      split at p1
      · rename_i xs
        obtain ⟨as, ⟨b, vs, rfl, rfl, o3, o4⟩, hfr⟩ := r1
        obtain ⟨f1, f2, f3, f4⟩ := hfr b (by simp)
        refine ⟨.inl ⟨rfl, _, SqL.of o3⟩, ?_⟩
        refine ⟨I1, ρ, T1, own, w1, er.ext x1, Post.toD ((PostS.step (rel := relD Γ) p1 x1).imp fun v H2 q2 => ?_)⟩
        obtain ⟨d, T2, I2, _, x2, w2, r2, p2⟩ := q2
        split at p2
        · rename_i hll
          have o3' : H2 b = some (.lst vs) := x2.fr _ _ o3 f2 fun z => z
          obtain ⟨g1, g2, g3⟩ := x2.apart f1 f2 f3 fun z => z
          refine ⟨b, vs, v, rfl, rfl, o3', by rw [o4.length]; exact Nat.lt_of_lt_of_le hll lim_le, ?_⟩
          have er2 := (er.ext x1).ext x2
          have nb : ∀ j c, c ∈ own j → c ≠ b := fun j c hc e => (er.free j c hc).2.2 (by rw [e]; exact f4)
          have xw : Ext (fun c => c = b) H2 I2 (upd H2 b (.lst (vs ++ [v]))) I2 := Ext.write rfl
          refine p2 σ _ I2 own ⟨(x1.tr0 x2).trans xw (fun _ z => z.elim) fun c hc => .inr (by rw [hc]; exact f4), w2.write g1 g2, ⟨er2.len, fun j lv e => ?_, er2.dead, fun j c hc => ?_, er2.disj⟩, fun _ z => .inl z⟩
          · obtain ⟨u, e1, e2⟩ := er2.at_ j lv e
            exact ⟨u, e1, e2.ext ⟨fun _ _ h => h, fun _ _ h => h, rfl⟩ fun c o hc q3 => by rw [upd_ne (nb j c hc)]; exact q3⟩
          · obtain ⟨k1, k2, k3⟩ := er2.free j c hc
            exact ⟨k1, k2, by rw [upd_ne (nb j c hc)]; exact k3⟩
        · exact p2.elim
      · rename_i m em
        have o4 := r1.unsh
        simp only [Rep] at o4
        obtain ⟨b, rfl, o5⟩ := o4
        have hm1 : m < T1.length := by rw [← w1.len]; exact (List.getElem?_eq_some_iff.mp o5).1
        obtain ⟨us, c1, c2⟩ := w1.cells m b T1[m] o5 (by simp [hm1])
        refine ⟨.inl ⟨rfl, _, SqL.of c1⟩, ?_⟩
        refine ⟨I1, ρ, T1, own, w1, er.ext x1, Post.toD ((PostS.step (rel := relD Γ) p1 x1).imp fun v H2 q2 => ?_)⟩
        obtain ⟨d, T2, I2, _, x2, w2, r2, p2⟩ := q2
        split at p2
        · rename_i xs e3
          split at p2
          · rename_i hll
            have o6 := x2.kk _ _ o5
            obtain ⟨vs, d1, d2⟩ := w2.cells m b xs o6 e3
            refine ⟨b, vs, v, rfl, rfl, d1, by rw [d2.length]; exact Nat.lt_of_lt_of_le hll lim_le, ?_⟩
            have xc : Ext O0 H2 I2 (upd H2 b (.lst (vs ++ [v]))) I2 := Ext.cell (List.mem_of_getElem? o6)
            exact p2 σ _ I2 own ⟨((x1.tr0 x2).tr0 xc).mono fun _ q => q.elim, w2.cell o6 (d2.append (Reps.cons r2 Reps.nil)), ((er.ext x1).ext x2).ext xc, fun _ z => .inl z⟩
          · exact p2.elim
        · exact p2.elim
      · exact p1.elim
    · cases h
end Tp
end
section
set_option Elab.async false
set_option linter.all false
set_option maxRecDepth 100000
set_option maxHeartbeats 2000000
/-! TqV: a list or tuple of cells, looked at as data meanwhile. -/
namespace Tp
open PySem PySem.Spec PyProof.Rows L2
mutual
/-- no cell from n0 on -/
def ncD (n0 : Nat) : D → Bool
  | .cell n => decide (n < n0)
  | .lst xs => ncDs n0 xs
  | .fz xs => ncDs n0 xs
  | .tup xs => ncDs n0 xs
  | .dct kvs => ncK n0 kvs
  | .obj _ xs => ncDs n0 xs
  | _ => true
def ncDs (n0 : Nat) : List D → Bool
  | [] => true
  | x :: xs => ncD n0 x && ncDs n0 xs
def ncK (n0 : Nat) : List (Key × D) → Bool
  | [] => true
  | x :: xs => ncD n0 x.2 && ncK n0 xs
end
def ncL (n0 : Nat) : Option LV → Bool
  | none => true
  | some (.sh d) => ncD n0 d
  | some (.ow xs) => ncDs n0 xs
  | _ => false
def isCells : Nat → List D → Bool
  | _, [] => true
  | n, .cell m :: r => decide (m = n) && isCells (n + 1) r
  | _, _ => false
def okC (cs : List D) (i : Nat) (ρ : Env) (T : Cs) : Bool := decide (cs.length ≤ T.length) && (isCells (T.length - cs.length) cs && ((ρ.set i none).all (ncL (T.length - cs.length)) && T.all (ncDs (T.length - cs.length))))
def borC (i : Nat) (ρ : Env) (T : Cs) : Option (Env × Nat) := match ρ[i]? with
  | some (some (.ow cs)) => if okC cs i ρ T then some (ρ.set i (some (.sh (.lst ((T.drop (T.length - cs.length)).map .lst)))), T.length - cs.length) else none
  | some (some (.sh (.tup cs))) => if okC cs i ρ T then some (ρ.set i (some (.sh (.tup ((T.drop (T.length - cs.length)).map .lst)))), T.length - cs.length) else none
  | _ => none
def borCK {α : Type} (okb : α → Bool) (n0 : Nat) (C : Cs) : Ev α → Ev α
  | .ok r T1 => if okb r && flatCs (T1.take n0) then .ok r (T1.take n0 ++ C) else .no
  | _ => .no
def evBorC {α : Type} (i : Nat) (okb : α → Bool) (ev : Env → Cs → Ev α) : Env → Cs → Ev α := fun ρ T => match borC i ρ T with
  | some x => borCK okb x.2 (T.drop x.2) (ev x.1 (T.take x.2))
  | none => .no
section
variable {Γ : Gam} {n : Nat} {W : WX}
mutual
theorem Rep.nc {I I' : Im} {n0 : Nat} (eg : ∀ a o, I.G a = some o → I'.G a = some o) (ek : ∀ (m : Nat) a, m < n0 → I.κ[m]? = some a → I'.κ[m]? = some a) : ∀ {d : D} {v : V}, ncD n0 d = true → Rep Γ I d v → Rep Γ I' d v
  | .non, _, _, h => h
  | .bl _, _, _, h => h
  | .int _, _, _, h => h
  | .str _, _, _, h => h
  | .lst _, _, c, h => by
    simp only [Rep] at h ⊢
    simp only [ncD] at c
    obtain ⟨a, vs, h1, h2, h3⟩ := h
    exact ⟨a, vs, h1, eg _ _ h2, Reps.nc eg ek c h3⟩
  | .fz _, _, c, h => by
    simp only [Rep] at h ⊢
    simp only [ncD] at c
    obtain ⟨a, vs, h1, h2, h3⟩ := h
    exact ⟨a, vs, h1, SqL.ext eg h2, Reps.nc eg ek c h3⟩
  | .tup _, _, c, h => by
    simp only [Rep] at h ⊢
    simp only [ncD] at c
    obtain ⟨a, vs, h1, h2, h3⟩ := h
    exact ⟨a, vs, h1, SqT.ext eg h2, Reps.nc eg ek c h3⟩
  | .dct _, _, c, h => by
    simp only [Rep] at h ⊢
    simp only [ncD] at c
    obtain ⟨a, o, vs, h1, h2, h3⟩ := h
    exact ⟨a, o, vs, h1, eg _ _ h2, RepK.nc eg ek c h3⟩
  | .obj _ _, _, c, h => by
    simp only [Rep] at h ⊢
    simp only [ncD] at c
    obtain ⟨a, dx, vs, h1, h2, h3, h4⟩ := h
    exact ⟨a, dx, vs, h1, eg _ _ h2, h3, Reps.nc eg ek c h4⟩
  | .cell _, _, c, h => by
    simp only [Rep] at h ⊢
    simp only [ncD, decide_eq_true_eq] at c
    obtain ⟨a, h1, h2⟩ := h
    exact ⟨a, h1, ek _ _ c h2⟩
theorem Reps.nc {I I' : Im} {n0 : Nat} (eg : ∀ a o, I.G a = some o → I'.G a = some o) (ek : ∀ (m : Nat) a, m < n0 → I.κ[m]? = some a → I'.κ[m]? = some a) : ∀ {ds : List D} {vs : List V}, ncDs n0 ds = true → Reps Γ I ds vs → Reps Γ I' ds vs
  | [], _, _, h => h
  | _ :: _, _, c, h => by
    simp only [Reps] at h ⊢
    simp only [ncDs, Bool.and_eq_true] at c
    obtain ⟨v, r, h1, h2, h3⟩ := h
    exact ⟨v, r, h1, Rep.nc eg ek c.1 h2, Reps.nc eg ek c.2 h3⟩
theorem RepK.nc {I I' : Im} {n0 : Nat} (eg : ∀ a o, I.G a = some o → I'.G a = some o) (ek : ∀ (m : Nat) a, m < n0 → I.κ[m]? = some a → I'.κ[m]? = some a) : ∀ {ds : List (Key × D)} {vs : List (Key × V)}, ncK n0 ds = true → RepK Γ I ds vs → RepK Γ I' ds vs
  | [], _, _, h => h
  | _ :: _, _, c, h => by
    simp only [RepK] at h ⊢
    simp only [ncK, Bool.and_eq_true] at c
    obtain ⟨v, r, h1, h2, h3⟩ := h
    exact ⟨v, r, h1, Rep.nc eg ek c.1 h2, RepK.nc eg ek c.2 h3⟩
end
/-- the cells from n0 on, and some more, held for good meanwhile -/
def imC (I : Im) (H : Hp) (bs : List Addr) (n0 : Nat) : Im := ⟨fun a => if a ∈ bs ++ I.κ.drop n0 then H a else I.G a, I.κ.take n0, I.me⟩
section
variable {I : Im} {H : Hp} {T : Cs} {bs : List Addr} {n0 : Nat}
theorem imC_gg (w : Wf Γ H I T) (hb : ∀ a, a ∈ bs → I.G a = none) : ∀ a o, I.G a = some o → (imC I H bs n0).G a = some o := fun a o h => by
  show (if a ∈ bs ++ I.κ.drop n0 then H a else I.G a) = some o
  rw [if_neg]
  · exact h
  · intro hm
    rcases List.mem_append.mp hm with hm | hm
    · rw [hb a hm] at h; cases h
    · rw [w.kg a (List.mem_of_mem_drop hm)] at h; cases h
theorem imC_kk : ∀ (m : Nat) a, m < n0 → I.κ[m]? = some a → (imC I H bs n0).κ[m]? = some a := fun m a hm h => by
  show (I.κ.take n0)[m]? = some a
  rw [List.getElem?_take_of_lt hm]; exact h
theorem imC_in {a : Addr} (h : a ∈ bs ++ I.κ.drop n0) : (imC I H bs n0).G a = H a := if_pos h
theorem imC_out {a : Addr} (h : a ∉ bs) (k : a ∉ I.κ) : (imC I H bs n0).G a = I.G a := if_neg fun hm => by
  rcases List.mem_append.mp hm with hm | hm
  · exact h hm
  · exact k (List.mem_of_mem_drop hm)
theorem drop_take {a : Addr} (nd : I.κ.Nodup) (h : a ∈ I.κ.take n0) : a ∉ I.κ.drop n0 := fun h2 => by
  have e : I.κ.take n0 ++ I.κ.drop n0 = I.κ := List.take_append_drop _ _
  rw [← e] at nd
  exact (List.nodup_append.mp nd).2.2 a h a h2 rfl
theorem imC_wf (w : Wf Γ H I T) (hb : ∀ a, a ∈ bs → I.G a = none ∧ a ∉ I.κ) (hc : T.all (ncDs n0) = true) : Wf Γ H (imC I H bs n0) (T.take n0) := by
  refine ⟨fun a o h => ?_, (List.take_sublist _ _).nodup w.nd, fun a ha => ?_, by show (I.κ.take n0).length = _; rw [List.length_take, List.length_take, w.len], fun m a ds e1 e2 => ?_⟩
  · have h : (if a ∈ bs ++ I.κ.drop n0 then H a else I.G a) = some o := h
    split at h
    · exact h
    · exact w.gh a o h
  · have ha : a ∈ I.κ.take n0 := ha
    show (if a ∈ bs ++ I.κ.drop n0 then H a else I.G a) = none
    rw [if_neg]
    · exact w.kg a (List.mem_of_mem_take ha)
    · intro hm
      rcases List.mem_append.mp hm with hm | hm
      · exact (hb a hm).2 (List.mem_of_mem_take ha)
      · exact drop_take w.nd ha hm
  · have e1 : (I.κ.take n0)[m]? = some a := e1
    have hm : m < n0 := by
      have := (List.getElem?_eq_some_iff.mp e1).1
      rw [List.length_take] at this
      omega
    rw [List.getElem?_take_of_lt hm] at e1 e2
    obtain ⟨vs, h1, h2⟩ := w.cells m a ds e1 e2
    exact ⟨vs, h1, Reps.nc (imC_gg w fun a h => (hb a h).1) imC_kk (List.all_eq_true.mp hc ds (List.mem_of_getElem? e2)) h2⟩
/-- the cells, as data -/
theorem imC_reps (w : Wf Γ H I T) (hb : ∀ a, a ∈ bs → I.G a = none) (hc : T.all (ncDs n0) = true) : ∀ (cs : List D) (vs : List V) (k : Nat), n0 ≤ k → k + cs.length = T.length → isCells k cs = true → Reps Γ I cs vs → Reps Γ (imC I H bs n0) ((T.drop k).map .lst) vs
  | [], vs, k, hk, hl, _, h => by
    rw [List.drop_eq_nil_of_le (by simpa using Nat.le_of_eq hl.symm)]
    simp only [Reps] at h
    subst h
    exact Reps.nil
  | d :: cs, vs, k, hk, hl, hi, h => by
    rw [List.length_cons] at hl
    cases d with
    | cell m =>
      obtain ⟨h1, h2⟩ := b2 (show (decide (m = k) && isCells (k + 1) cs) = true from hi)
      have h1 := of_decide_eq_true h1
      subst h1
      simp only [Reps] at h
      obtain ⟨v, r, rfl, h3, h4⟩ := h
      simp only [Rep] at h3
      obtain ⟨a, rfl, h5⟩ := h3
      have hkl : m < T.length := by omega
      rw [List.drop_eq_getElem_cons hkl, List.map_cons]
      obtain ⟨us, c1, c2⟩ := w.cells m a T[m] h5 (by simp [hkl])
      refine Reps.cons (Rep.ofLst (a := a) (vs := us) ?_ (Reps.nc (imC_gg w hb) imC_kk (List.all_eq_true.mp hc _ (List.getElem_mem _)) c2)) (imC_reps w hb hc cs r (m + 1) (by omega) (by omega) h2 h4)
      rw [imC_in (List.mem_append_right _ ?_), c1]
      have : (I.κ.drop n0)[m - n0]? = some a := by rw [List.getElem?_drop, show n0 + (m - n0) = m by omega]; exact h5
      exact List.mem_of_getElem? this
    | _ => cases hi
/-- back again -/
theorem imC_back {H1 : Hp} {I1 : Im} {T1 : Cs} (w : Wf Γ H I T) (hb : ∀ a, a ∈ bs → I.G a = none) (hn : n0 ≤ T.length) (x : Ext O0 H (imC I H bs n0) H1 I1) (w1 : Wf Γ H1 I1 T1) (hf : flatCs (T1.take n0) = true) : Ext O0 H I H1 I ∧ Wf Γ H1 I (T1.take n0 ++ T.drop n0) := by
  have hk2 : ∀ (m : Nat) a, m < n0 → I.κ[m]? = some a → I1.κ[m]? = some a := fun m a hm h => x.kk m a (imC_kk m a hm h)
  have hlen : n0 ≤ T1.length := by
    rw [← w1.len]
    by_cases h0 : n0 = 0
    · omega
    · have hm : n0 - 1 < I.κ.length := by rw [w.len]; omega
      have e : I.κ[n0 - 1]? = some I.κ[n0 - 1] := by simp [hm]
      have e2 := (List.getElem?_eq_some_iff.mp (hk2 _ _ (by omega) e)).1
      omega
  refine ⟨⟨fun _ _ h => h, fun _ _ h => h, fun a o h nk no => x.fr a o h (fun q => nk (List.mem_of_mem_take (show a ∈ I.κ.take n0 from q))) no, x.th, fun _ h => .inl h, fun _ h => .inl h, rfl⟩, ?_⟩
  refine ⟨fun a o h => w1.gh a o (x.gg a o (imC_gg w hb a o h)), w.nd, w.kg, by rw [List.length_append, List.length_take, List.length_drop, w.len]; omega, fun m a ds e1 e2 => ?_⟩
  by_cases hm : m < n0
  · have e2' : (T1.take n0)[m]? = some ds := by
      rw [← e2, List.getElem?_append_left (by rw [List.length_take]; omega)]
    have e3 : T1[m]? = some ds := by rw [List.getElem?_take_of_lt hm] at e2'; exact e2'
    obtain ⟨vs, h1, h2⟩ := w1.cells m a ds (hk2 m a hm e1) e3
    exact ⟨vs, h1, h2.flat0 (List.all_eq_true.mp hf ds (List.mem_of_getElem? e2'))⟩
  · have e3 : T[m]? = some ds := by
      rw [← e2, List.getElem?_append_right (by rw [List.length_take]; omega), List.getElem?_drop, List.length_take]
      congr 1
      omega
    obtain ⟨us, c1, c2⟩ := w.cells m a ds e1 e3
    refine ⟨us, ?_, c2⟩
    refine w1.gh a _ (x.gg a _ ?_)
    rw [imC_in (List.mem_append_right _ ?_), c1]
    have : (I.κ.drop n0)[m - n0]? = some a := by rw [List.getElem?_drop, show n0 + (m - n0) = m by omega]; exact e1
    exact List.mem_of_getElem? this
end
/-- the locals meanwhile -/
theorem imC_er {I : Im} {H : Hp} {T : Cs} {bs : List Addr} {n0 : Nat} {σ : L2.St} {ρ : Env} {own : Nat → List Addr} {i : Nat} {d : D} {v : V} (w : Wf Γ H I T) (er : ER Γ n σ ρ H I own) (hb : ∀ a, a ∈ bs → I.G a = none ∧ a ∉ I.κ) (hob : own i = bs) (hil : i < ρ.length) (hs : σ[i]? = some (some v)) (hd : Rep Γ (imC I H bs n0) d v)
    (hc : (ρ.set i none).all (ncL n0) = true) : ER Γ n σ (ρ.set i (some (.sh d))) H (imC I H bs n0) (fun j => if j = i then [] else own j) := by
  have gg := imC_gg (n0 := n0) w fun a h => (hb a h).1
  refine ⟨by rw [List.length_set]; exact er.len, fun j lv e => ?_, fun j e => ?_, fun j a ha => ?_, fun j j' a h1 h2 => ?_⟩
  · by_cases hj : i = j
    · subst hj
      rw [List.getElem?_set_self hil] at e
      cases e
      exact ⟨_, hs, by rw [if_pos rfl]; exact ⟨rfl, hd⟩⟩
    · rw [List.getElem?_set_ne hj] at e
      obtain ⟨u, h1, h2⟩ := er.at_ j lv e
      refine ⟨u, h1, ?_⟩
      rw [if_neg (Ne.symm hj)]
      have hc2 : ncL n0 (some lv) = true := List.all_eq_true.mp hc (some lv) (by
        have : (ρ.set i none)[j]? = some (some lv) := by rw [List.getElem?_set_ne hj]; exact e
        exact List.mem_of_getElem? this)
      cases lv with
      | sh d2 => exact ⟨h2.1, Rep.nc gg imC_kk hc2 h2.2⟩
      | ow xs =>
        obtain ⟨a, vs, k1, k2, k3, k4⟩ := h2
        exact ⟨a, vs, k1, k2, k3, Reps.nc gg imC_kk hc2 k4⟩
      | _ => cases hc2
  · by_cases hj : j = i
    · rw [if_pos hj]
    · rw [if_neg hj]
      refine er.dead j fun lv q => e lv ?_
      rw [List.getElem?_set_ne (Ne.symm hj)]; exact q
  · by_cases hj : j = i
    · rw [if_pos hj] at ha; cases ha
    · rw [if_neg hj] at ha
      obtain ⟨k1, k2, k3⟩ := er.free j a ha
      refine ⟨?_, fun z => k2 (List.mem_of_mem_take (show a ∈ I.κ.take n0 from z)), k3⟩
      rw [imC_out (fun z => hj (er.disj j i a ha (by rw [hob]; exact z))) k2, k1]
  · by_cases hj : j = i
    · rw [if_pos hj] at h1; cases h1
    · by_cases hj' : j' = i
      · rw [if_pos hj'] at h2; cases h2
      · rw [if_neg hj] at h1
        rw [if_neg hj'] at h2
        exact er.disj j j' a h1 h2
theorem okC_ok {cs : List D} {i : Nat} {ρ : Env} {T : Cs} (h : okC cs i ρ T = true) : cs.length ≤ T.length ∧ isCells (T.length - cs.length) cs = true ∧ (ρ.set i none).all (ncL (T.length - cs.length)) = true ∧ T.all (ncDs (T.length - cs.length)) = true := by
  obtain ⟨h1, h⟩ := b2 h
  obtain ⟨h2, h⟩ := b2 h
  obtain ⟨h3, h4⟩ := b2 h
  exact ⟨of_decide_eq_true h1, h2, h3, h4⟩
theorem borC_run {α β : Type} {rel : (Nat → List Addr) → Hp → Hp → Im → α → β → Prop} {i : Nat} {okb : α → Bool} {ev : Env → Cs → Ev α} {σ : L2.St} {H : Hp} {Q : β → Hp → Prop}
    (hrel : ∀ {own own' : Nat → List Addr} {Hs H' : Hp} {I I1 : Im} {r : α} {v : β}, (∀ a o, I.G a = some o → I1.G a = some o) → (∀ a, a ∈ I.κ → a ∈ I1.κ ∨ I1.G a ≠ none) → okb r = true → rel own' Hs H' I1 r v → rel own Hs H' I r v)
    {I : Im} {ρ : Env} {T : Cs} {own : Nat → List Addr} (w : Wf Γ H I T) (er : ER Γ n σ ρ H I own) (p : Post Γ (rel own) W σ H I (evBorC i okb ev ρ T) Q) :
    ∃ I ρ T own, Wf Γ H I T ∧ ER Γ n σ ρ H I own ∧ Post Γ (rel own) W σ H I (ev ρ T) Q := by
  have fin : ∀ (bs : List Addr) (n0 : Nat) (ρ' : Env), n0 ≤ T.length → (∀ a, a ∈ bs → I.G a = none ∧ a ∉ I.κ) → T.all (ncDs n0) = true → borC i ρ T = some (ρ', n0) → ER Γ n σ ρ' H (imC I H bs n0) (fun j => if j = i then [] else own j) → ∃ I ρ T own, Wf Γ H I T ∧ ER Γ n σ ρ H I own ∧ Post Γ (rel own) W σ H I (ev ρ T) Q := fun bs n0 ρ' hn hb hc e er' => by
    refine ⟨_, ρ', _, _, imC_wf w hb hc, er', ?_⟩
    unfold evBorC at p
    rw [e] at p
    have p : Post Γ (rel own) W σ H I (borCK okb n0 (T.drop n0) (ev ρ' (T.take n0))) Q := p
    cases e3 : ev ρ' (T.take n0) with
    | no => rw [e3] at p; exact p.elim
    | ex y T' => rw [e3] at p; exact p.elim
    | ok r T1 =>
      rw [e3] at p
      intro v H1 I1 x w1 rr
      have p' : Post Γ (rel own) W σ H I (if okb r && flatCs (T1.take n0) then .ok r (T1.take n0 ++ T.drop n0) else .no) Q := p
      split at p'
      · rename_i hcc
        obtain ⟨c1, c2⟩ := b2 hcc
        obtain ⟨x2, w2⟩ := imC_back w (fun a h => (hb a h).1) hn x w1 c2
        refine p' v H1 I x2 w2 (hrel (own' := fun j => if j = i then [] else own j) (I1 := I1) (fun a o h => x.gg a o (imC_gg w (fun a h => (hb a h).1) a o h)) (fun a ha => ?_) c1 rr)
        have e : a ∈ I.κ.take n0 ++ I.κ.drop n0 := by rw [List.take_append_drop]; exact ha
        rcases List.mem_append.mp e with e | e
        · left
          obtain ⟨m, hm, e4⟩ := List.getElem_of_mem e
          have e1 : (I.κ.take n0)[m]? = some a := by rw [List.getElem?_eq_getElem hm, e4]
          exact List.mem_of_getElem? (x.kk m a e1)
        · right
          have g1 : (imC I H bs n0).G a = H a := imC_in (List.mem_append_right _ e)
          obtain ⟨_, _, vs, _, _, h5, _⟩ := w.cellIn ha
          rw [h5] at g1
          rw [x.gg a _ g1]
          simp
      · exact p'.elim
  have p0 := p
  unfold evBorC at p0
  cases e0 : borC i ρ T with
  | none => rw [e0] at p0; exact p0.elim
  | some y =>
    have e1 := e0
    unfold borC at e1
    split at e1
    · rename_i cs ei
      split at e1
      · rename_i hok
        obtain ⟨k1, k2, k3, k4⟩ := okC_ok hok
        have hil : i < ρ.length := (List.getElem?_eq_some_iff.mp ei).1
        obtain ⟨b, vs, o1, o2, o3, o4⟩ := own_list er ei
        have hb : ∀ a, a ∈ [b] → I.G a = none ∧ a ∉ I.κ := fun a ha => by
          obtain ⟨f1, f2, _⟩ := er.free i a (by rw [o1]; exact ha)
          exact ⟨f1, f2⟩
        cases e1
        refine fin [b] _ _ (Nat.sub_le _ _) hb k4 e0 (imC_er w er hb o1 hil o2 (Rep.ofLst (vs := vs) ?_ (imC_reps w (fun a h => (hb a h).1) k4 cs vs _ (Nat.le_refl _) (by omega) k2 o4)) k3)
        rw [imC_in (List.mem_append_left _ List.mem_cons_self), o3]
      · cases e1
    · rename_i cs ei
      split at e1
      · rename_i hok
        obtain ⟨k1, k2, k3, k4⟩ := okC_ok hok
        have hil : i < ρ.length := (List.getElem?_eq_some_iff.mp ei).1
        obtain ⟨v, h1, h2⟩ := er.at_ i _ ei
        obtain ⟨a, vs, rfl, s1, s2⟩ := Rep.tup h2.2
        have hb : ∀ a, a ∈ ([] : List Addr) → I.G a = none ∧ a ∉ I.κ := fun a ha => nomatch ha
        cases e1
        exact fin [] _ _ (Nat.sub_le _ _) hb k4 e0 (imC_er w er hb h2.1 hil h1 (Rep.ofTup (SqT.ext (imC_gg w fun a h => (hb a h).1) s1) (imC_reps w (fun a h => (hb a h).1) k4 cs vs _ (Nat.le_refl _) (by omega) k2 s2)) k3)
      · cases e1
    · cases e1
end
/-- an expression that looks at the i-th local's cells as data -/
def cBorC (i : Nat) (a : CE) : CE where
  ev := evBorC i okBor a.ev
  chk := a.chk
  need := a.need
  z := a.z
  ok := by
    intro Γ k W sc X e n g nd h hz
    refine PE.mono (a.ok g nd h hz) fun σ H Q ⟨I, ρ, T, own, w, er, p⟩ => ?_
    refine borC_run (rel := fun own => RepR Γ n own) (fun {own own' Hs H' I I1 r v} gg kk ho q => ?_) w er p
    unfold okBor at ho
    split at ho
    · exact RepR.sh (q.unsh.flat0 ho)
    · obtain ⟨as, ⟨b, vs, rfl, h2, h3, h4⟩, h5⟩ := q
      refine ⟨[b], ⟨b, vs, rfl, h2, h3, h4.flat0 ho⟩, fun c hc => ?_⟩
      obtain ⟨g1, g2, g3, g4⟩ := h5 c hc
      refine ⟨?_, fun z => (kk c z).elim g2 fun q => q g1, g3, g4⟩
      cases e : I.G c with
      | none => rfl
      | some o => rw [gg c o e] at g1; cases g1
    · cases ho
def tBorC (i : Nat) (a : CT) : CT where
  ev := evBorC i (fun _ => true) a.ev
  chk := a.chk
  need := a.need
  z := a.z
  ok := by
    intro Γ k W sc X e n g nd h hz
    refine PT.mono (a.ok g nd h hz) fun σ H Q ⟨I, ρ, T, own, w, er, p⟩ => ?_
    exact borC_run (rel := fun _ => relB) (fun {own own' Hs H' I I1 r v} _ _ _ q => q) w er p
end Tp
end
section
set_option Elab.async false
set_option linter.all false
set_option maxRecDepth 100000
set_option maxHeartbeats 2000000
/-! TqX: cells that locals hold (alone or in a tuple), wherever they stand, looked at as data meanwhile. -/
namespace Tp
open PySem PySem.Spec PyProof.Rows L2
def isCell : D → Bool
  | .cell _ => true
  | _ => false
def cd1 (n0 : Nat) (T : Cs) : D → D
  | .cell k => if k < n0 then .cell k else .lst (T.getD k [])
  | d => d
def cdD (n0 : Nat) (T : Cs) : D → D
  | .cell k => if k < n0 then .cell k else .lst (T.getD k [])
  | .tup xs => .tup (xs.map (cd1 n0 T))
  | d => d
def cdL (n0 : Nat) (T : Cs) : Option LV → Option LV
  | some (.sh d) => some (.sh (cdD n0 T d))
  | o => o
def okXD (n0 : Nat) : D → Bool
  | .cell _ => true
  | .tup xs => xs.all fun x => isCell x || ncD n0 x
  | d => ncD n0 d
def okXL (n0 : Nat) : Option LV → Bool
  | none => true
  | some (.sh d) => okXD n0 d
  | some (.ow xs) => ncDs n0 xs
  | _ => false
def okX (n0 : Nat) (ρ : Env) (T : Cs) : Bool := decide (n0 ≤ T.length) && (ρ.all (okXL n0) && T.all (ncDs n0))
def minC : List D → Nat → Nat
  | [], a => a
  | .cell k :: r, a => minC r (min k a)
  | _ :: r, a => minC r a
def borXG {α : Type} (okb : α → Bool) (ev : Env → Cs → Ev α) (b : Bool) (n0 : Nat) (ρ : Env) (T : Cs) : Ev α := if b then borCK okb n0 (T.drop n0) (ev (ρ.map (cdL n0 T)) (T.take n0)) else .no
def borXQ {α : Type} (okb : α → Bool) (ev : Env → Cs → Ev α) (ρ : Env) (T : Cs) : Option (Option LV) → Ev α
  | some (some (.sh (.cell k))) => borXG okb ev (okX k ρ T) k ρ T
  | some (some (.sh (.tup xs))) => borXG okb ev (okX (minC xs T.length) ρ T) (minC xs T.length) ρ T
  | _ => .no
def evBorX {α : Type} (i : Nat) (okb : α → Bool) (ev : Env → Cs → Ev α) : Env → Cs → Ev α := fun ρ T => borXQ okb ev ρ T (ρ[i]?)
theorem nilG {I : Im} : ∀ a, a ∈ ([] : List Addr) → I.G a = none := fun a ha => absurd ha List.not_mem_nil
section
variable {Γ : Gam} {n : Nat} {W : WX} {I : Im} {H : Hp} {T : Cs} {n0 : Nat}
theorem rep_cell {k : Nat} {v : V} (w : Wf Γ H I T) (hc : T.all (ncDs n0) = true) (h : Rep Γ I (.cell k) v) : Rep Γ (imC I H [] n0) (if k < n0 then .cell k else .lst (T.getD k [])) v := by
  simp only [Rep] at h
  obtain ⟨a, rfl, h5⟩ := h
  split
  · rename_i hk
    simp only [Rep]
    exact ⟨a, rfl, imC_kk k a hk h5⟩
  · rename_i hk
    have hkl : k < T.length := by
      rw [← w.len]
      exact (List.getElem?_eq_some_iff.mp h5).1
    obtain ⟨us, c1, c2⟩ := w.cells k a T[k] h5 (by simp [hkl])
    rw [show T.getD k [] = T[k] by rw [List.getD_eq_getElem?_getD, List.getElem?_eq_getElem hkl]; rfl]
    refine Rep.ofLst (a := a) (vs := us) ?_ (Reps.nc (imC_gg w nilG) imC_kk (List.all_eq_true.mp hc _ (List.getElem_mem _)) c2)
    rw [imC_in (List.mem_append_right _ ?_), c1]
    have : (I.κ.drop n0)[k - n0]? = some a := by rw [List.getElem?_drop, show n0 + (k - n0) = k by omega]; exact h5
    exact List.mem_of_getElem? this
theorem reps_cd1 (w : Wf Γ H I T) (hc : T.all (ncDs n0) = true) : ∀ (xs : List D) (vs : List V), (xs.all fun x => isCell x || ncD n0 x) = true → Reps Γ I xs vs → Reps Γ (imC I H [] n0) (xs.map (cd1 n0 T)) vs
  | [], vs, _, h => by
    simp only [Reps] at h
    subst h
    exact Reps.nil
  | x :: xs, vs, ho, h => by
    simp only [List.all_cons, Bool.and_eq_true] at ho
    simp only [Reps] at h
    obtain ⟨v, r, rfl, h3, h4⟩ := h
    refine Reps.cons ?_ (reps_cd1 w hc xs r ho.2 h4)
    cases x with
    | cell k => exact rep_cell w hc h3
    | _ => exact Rep.nc (imC_gg w nilG) imC_kk ho.1 h3
theorem rep_cdD {d : D} {v : V} (w : Wf Γ H I T) (hc : T.all (ncDs n0) = true) (ho : okXD n0 d = true) (h : Rep Γ I d v) : Rep Γ (imC I H [] n0) (cdD n0 T d) v := by
  cases d with
  | cell k => exact rep_cell w hc h
  | tup xs =>
    obtain ⟨a, vs, rfl, s1, s2⟩ := Rep.tup h
    exact Rep.ofTup (SqT.ext (imC_gg w nilG) s1) (reps_cd1 w hc xs vs ho s2)
  | _ => exact Rep.nc (imC_gg w nilG) imC_kk ho h
theorem borX_er {σ : L2.St} {ρ : Env} {own : Nat → List Addr} (w : Wf Γ H I T) (er : ER Γ n σ ρ H I own) (hρ : ρ.all (okXL n0) = true) (hc : T.all (ncDs n0) = true) : ER Γ n σ (ρ.map (cdL n0 T)) H (imC I H [] n0) own := by
  have gg := imC_gg (n0 := n0) w (bs := []) nilG
  refine ⟨by rw [List.length_map]; exact er.len, fun j lv e => ?_, fun j e => er.dead j fun lv q => ?_, fun j a ha => ?_, er.disj⟩
  · rw [List.getElem?_map] at e
    cases hj : ρ[j]? with
    | none => rw [hj] at e; cases e
    | some o =>
      rw [hj] at e
      have e : cdL n0 T o = some lv := Option.some.inj e
      have ho : okXL n0 o = true := List.all_eq_true.mp hρ o (List.mem_of_getElem? hj)
      cases o with
      | none => cases e
      | some lv0 =>
        obtain ⟨u, h1, h2⟩ := er.at_ j lv0 hj
        refine ⟨u, h1, ?_⟩
        cases lv0 with
        | sh d =>
          cases e
          exact ⟨h2.1, rep_cdD w hc ho h2.2⟩
        | ow xs =>
          cases e
          obtain ⟨a, vs, k1, k2, k3, k4⟩ := h2
          exact ⟨a, vs, k1, k2, k3, Reps.nc gg imC_kk ho k4⟩
        | _ => cases ho
  · have : (ρ.map (cdL n0 T))[j]? = some (cdL n0 T (some lv)) := by rw [List.getElem?_map, q]; rfl
    cases lv with
    | sh d => exact e _ this
    | _ => exact e _ this
  · obtain ⟨k1, k2, k3⟩ := er.free j a ha
    refine ⟨?_, fun z => k2 (List.mem_of_mem_take (show a ∈ I.κ.take n0 from z)), k3⟩
    rw [imC_out (fun z => absurd z List.not_mem_nil) k2, k1]
theorem borX_fin {α β : Type} {rel : (Nat → List Addr) → Hp → Hp → Im → α → β → Prop} {okb : α → Bool} {ev : Env → Cs → Ev α} {σ : L2.St} {Q : β → Hp → Prop}
    (hrel : ∀ {own own' : Nat → List Addr} {Hs H' : Hp} {I I1 : Im} {r : α} {v : β}, (∀ a o, I.G a = some o → I1.G a = some o) → (∀ a, a ∈ I.κ → a ∈ I1.κ ∨ I1.G a ≠ none) → okb r = true → rel own' Hs H' I1 r v → rel own Hs H' I r v)
    {ρ' : Env} {own : Nat → List Addr} (w : Wf Γ H I T) (hn : n0 ≤ T.length) (hc : T.all (ncDs n0) = true) (er' : ER Γ n σ ρ' H (imC I H [] n0) own) (p : Post Γ (rel own) W σ H I (borCK okb n0 (T.drop n0) (ev ρ' (T.take n0))) Q) :
    ∃ I ρ T own, Wf Γ H I T ∧ ER Γ n σ ρ H I own ∧ Post Γ (rel own) W σ H I (ev ρ T) Q := by
  have hb : ∀ a, a ∈ ([] : List Addr) → I.G a = none := nilG
  refine ⟨_, ρ', _, _, imC_wf w (fun a h => absurd h List.not_mem_nil) hc, er', ?_⟩
  cases e3 : ev ρ' (T.take n0) with
  | no => rw [e3] at p; exact p.elim
  | ex y T' => rw [e3] at p; exact p.elim
  | ok r T1 =>
    rw [e3] at p
    intro v H1 I1 x w1 rr
    have p' : Post Γ (rel own) W σ H I (if okb r && flatCs (T1.take n0) then .ok r (T1.take n0 ++ T.drop n0) else .no) Q := p
    split at p'
    · rename_i hcc
      obtain ⟨c1, c2⟩ := b2 hcc
      obtain ⟨x2, w2⟩ := imC_back w hb hn x w1 c2
      refine p' v H1 I x2 w2 (hrel (own' := own) (I1 := I1) (fun a o h => x.gg a o (imC_gg w hb a o h)) (fun a ha => ?_) c1 rr)
      have e : a ∈ I.κ.take n0 ++ I.κ.drop n0 := by rw [List.take_append_drop]; exact ha
      rcases List.mem_append.mp e with e | e
      · left
        obtain ⟨m, hm, e4⟩ := List.getElem_of_mem e
        have e1 : (I.κ.take n0)[m]? = some a := by rw [List.getElem?_eq_getElem hm, e4]
        exact List.mem_of_getElem? (x.kk m a e1)
      · right
        have g1 : (imC I H [] n0).G a = H a := imC_in (List.mem_append_right _ e)
        obtain ⟨_, _, vs, _, _, h5, _⟩ := w.cellIn ha
        rw [h5] at g1
        rw [x.gg a _ g1]
        simp
    · exact p'.elim
theorem borX_run {α β : Type} {rel : (Nat → List Addr) → Hp → Hp → Im → α → β → Prop} {i : Nat} {okb : α → Bool} {ev : Env → Cs → Ev α} {σ : L2.St} {Q : β → Hp → Prop}
    (hrel : ∀ {own own' : Nat → List Addr} {Hs H' : Hp} {I I1 : Im} {r : α} {v : β}, (∀ a o, I.G a = some o → I1.G a = some o) → (∀ a, a ∈ I.κ → a ∈ I1.κ ∨ I1.G a ≠ none) → okb r = true → rel own' Hs H' I1 r v → rel own Hs H' I r v)
    {ρ : Env} {own : Nat → List Addr} (w : Wf Γ H I T) (er : ER Γ n σ ρ H I own) (p : Post Γ (rel own) W σ H I (evBorX i okb ev ρ T) Q) :
    ∃ I ρ T own, Wf Γ H I T ∧ ER Γ n σ ρ H I own ∧ Post Γ (rel own) W σ H I (ev ρ T) Q := by
  have go : ∀ n0, Post Γ (rel own) W σ H I (borXG okb ev (okX n0 ρ T) n0 ρ T) Q → ∃ I ρ T own, Wf Γ H I T ∧ ER Γ n σ ρ H I own ∧ Post Γ (rel own) W σ H I (ev ρ T) Q := fun n0 p => by
    unfold borXG at p
    split at p
    · rename_i hok
      obtain ⟨h1, h2⟩ := b2 hok
      obtain ⟨h2, h3⟩ := b2 h2
      exact borX_fin hrel w (of_decide_eq_true h1) h3 (borX_er w er h2 h3) p
    · exact p.elim
  unfold evBorX at p
  unfold borXQ at p
  split at p
  · exact go _ p
  · exact go _ p
  · exact p.elim
end
/-- an expression that looks at the cells that the i-th local holds as data -/
def cBorX (i : Nat) (a : CE) : CE where
  ev := evBorX i okBor a.ev
  chk := a.chk
  need := a.need
  z := a.z
  ok := by
    intro Γ k W sc X e n g nd h hz
    refine PE.mono (a.ok g nd h hz) fun σ H Q ⟨I, ρ, T, own, w, er, p⟩ => ?_
    refine borX_run (rel := fun own => RepR Γ n own) (fun {own own' Hs H' I I1 r v} gg kk ho q => ?_) w er p
    unfold okBor at ho
    split at ho
    · exact RepR.sh (q.unsh.flat0 ho)
    · obtain ⟨as, ⟨b, vs, rfl, h2, h3, h4⟩, h5⟩ := q
      refine ⟨[b], ⟨b, vs, rfl, h2, h3, h4.flat0 ho⟩, fun c hc => ?_⟩
      obtain ⟨g1, g2, g3, g4⟩ := h5 c hc
      refine ⟨?_, fun z => (kk c z).elim g2 fun q => q g1, g3, g4⟩
      cases e : I.G c with
      | none => rfl
      | some o => rw [gg c o e] at g1; cases g1
    · cases ho
def tBorX (i : Nat) (a : CT) : CT where
  ev := evBorX i (fun _ => true) a.ev
  chk := a.chk
  need := a.need
  z := a.z
  ok := by
    intro Γ k W sc X e n g nd h hz
    refine PT.mono (a.ok g nd h hz) fun σ H Q ⟨I, ρ, T, own, w, er, p⟩ => ?_
    exact borX_run (rel := fun _ => relB) (fun {own own' Hs H' I I1 r v} _ _ _ q => q) w er p
end Tp
end
section
set_option Elab.async false
set_option linter.all false
set_option maxRecDepth 100000
set_option maxHeartbeats 2000000
/-! TqY: repr of an object with its own __repr__; f-strings of texts and ints. -/
namespace HN
open PySem PySem.Spec PyProof.Rows PySem.SeqAt
section
variable {M : Model} {prog : Program} {w : World} {A : Around} {E : Value → Shared → Prop} {s : Shared} {K : PySem.W.Frag} {x C f : Addr} {ox : Obj} {od : Option Obj}
theorem repr_K {Q : Value → Shared → Prop} (hu : A.in1.units < cLine) (X : K.In s.heap) (I : PySem.W.InstAt s.heap x ox C od) (hs : PySem.W.findIn K (.ref C) "__repr__" = some (some (.ref f))) (hf : PySem.W.isFn K (.ref f) = true)
    (h : wpAny (model prog w) A.in1 (call (.ref f) [.ref x]) (fun r s' => ∃ m tk, r = .str m tk ∧ Q (.str m tk) s') E s) : wpAny (model prog w) A (call (.builtin "repr") [.ref x]) Q E s := by
  refine Calls.call_function_entry F.kind_repr F.plain_repr F.entry_repr (F.args_repr1 _) ?_
  unfold Builtin.«repr»
  refine wpAny_bind (m := oneArg "repr" _) (wpAny_pure ?_)
  refine wpAny_bind (wpAny_cRoomFor hu ?_)
  refine wpAny_bind (wpAny_bind (I.type.here ((PySem.W.looks_findIn X hs).here ?_)))
  show wpAny _ _ (if (some (Value.ref f)).isNone = true then _ else _) _ _ _
  rw [if_neg (by simp)]
  refine wpAny_bind (m := callSpecialIfBound? (.ref x) (Str.ofString "__repr__") _) (PySem.W.ifBound_K X I hs hf (wpAny_mono h (fun r s' hr => ?_) fun _ _ y => y))
  obtain ⟨m, tk, rfl, hq⟩ := hr
  refine wpAny_bind (wpAny_isInstance (typeIs_str _ _ _) isSubtype_str_str ?_)
  first
    | exact wpAny_pure ⟨_, rfl, hq⟩
    | (rw [if_pos rfl]; exact wpAny_pure ⟨_, rfl, hq⟩)
    | (simp only [if_true]; exact wpAny_pure ⟨_, rfl, hq⟩)
end
end HN
namespace Tp
open PySem PySem.Spec PyProof.Rows L2
structure OwnRepr (Γ : Gam) (c : Nat) (s : DefSig) (ev : FEv) : Prop where
  cl : ClsFull Γ c
  ex : ∃ f, PySem.W.findIn Γ.K (.ref (cAd Γ c)) "__repr__" = some (some (.ref f)) ∧ PySem.W.isFn Γ.K (.ref f) = true ∧ FnIs Γ s ev f
def rObjRepr (Γ : Gam) (c : Nat) (ev : FEv) : List V → Hp → VK → Prop := fun vs H Q => ∃ x I T xs m T3, vs = [x] ∧ Wf Γ H I T ∧ Rep Γ I (.obj c xs) x ∧ ev [.obj c xs] T = .ok (.sh (.str m)) T3 ∧
  ∀ H' I', Tp.Ext O0 H I H' I' → Wf Γ H' I' T3 → Q (.str m) H'
theorem cr_objRepr {Γ : Gam} {k : Nat} {W : WX} {sc : Sc} {X : Cx} {c : Nat} {s : DefSig} {ev : FEv} (g : Good Γ k W sc X) (O : OwnRepr Γ c s ev) (B : BindOk s 1 [] (srcAll 1)) (hlv : s.lv + 1 ≤ k) : CallR X (.builtin "repr") (rObjRepr Γ c ev) := by
  intro pins sh σ H vs us0 Q Iv rv h
  obtain ⟨x, I, T, xs, m, T3, rfl, w, ra, e3, q⟩ := h
  obtain ⟨CF, ⟨f, hs, hf, F⟩⟩ := O
  have ra' := ra
  simp only [Rep] at ra'
  obtain ⟨a, dx, us, rfl, h4, _, _⟩ := ra'
  rw [CF.cd] at h4
  cases rv with
  | cons r1 r2 =>
    cases r2
    rename_i v
    obtain rfl : v = Value.ref a := r1
    obtain ⟨fd, FD, FG⟩ := F.fn
    obtain ⟨mA, J, _⟩ := ins_get Iv.hok (w.gh _ _ h4)
    obtain ⟨od, J, _⟩ := J.look
    have KX : X.K.In sh.heap := Iv.kIn
    have KI : Γ.K.In sh.heap := by rw [← g.K]; exact Iv.kIn
    obtain ⟨its, ri, hb⟩ := bind_of (sh := sh) B FD KI (us := [.ref a]) (ws := []) rfl rfl
    have e0 : Env0 Γ.P Γ.w Γ.K Γ.mg Γ.base X.A X.stack sh H := by
      have := Iv.env0
      rw [g.prog, g.w, g.K, g.mg, g.base] at this
      exact this
    have hsp : ∀ Q' : VK, (∀ H', Q (.str m) H' → Q' (.str m) H') → spD Γ s.ps.length ev (sel .non ([V.ref a] ++ []) (s.dfl.map constV) (srcAll 1)) H Q' (fun _ _ _ => False) := fun Q' hQ => by
      refine ⟨I, T, [.obj c xs], w, Reps.cons ra Reps.nil, B.len, ?_⟩
      rw [e3]
      refine fun v H' I' as x' w' r' q' => ?_
      obtain ⟨_, r2⟩ := r'
      rw [Rep.str r2]
      exact hQ _ (q H' I' x' w')
    have vv : Paired RelV [V.ref a] [Value.ref a] := .cons rfl .nil
    have hs' : PySem.W.findIn X.K (.ref (cAd Γ c)) "__repr__" = some (some (.ref f)) := by rw [g.K]; exact hs
    have hf' : PySem.W.isFn X.K (.ref f) = true := by rw [g.K]; exact hf
    refine HN.repr_K (by have := g.room.un; show X.A.units + 1 < cLine; omega) KX J hs' hf' ?_
    have hrun := FG.run X.A.in1 X.stack sh H ⟨[.ref a], []⟩ _ _ (fun v H' => ∃ r0, v = .str r0 ∧ Q (.str r0) H') (fun _ _ _ => False) g.gd ((g.room.mono hlv).in1) e0.in1 hb (Tp.Vals.sel vv ri _) (hsp _ fun H' h => ⟨m, rfl, h⟩)
    rw [← g.prog, ← g.w] at hrun
    refine wpAny_call (codeAny_mono hrun ?_)
    rintro r' s' hq
    match r', hq with
    | .error er, hq =>
      obtain ⟨_, _, _, _, _, _, _, _, _, _, _, _, z⟩ := hq
      exact z.elim
    | .ok (.ret u), hq =>
      obtain ⟨v, H', I3, rv, r0, rfl, q3⟩ := Iv.after hq
      obtain ⟨tk, rfl⟩ := rv
      exact ⟨r0, tk, rfl, .str r0, H', I3, ⟨tk, rfl⟩, q3⟩
    | .ok .next, hq => exact hq.elim
    | .ok .brk, hq => exact hq.elim
    | .ok .cont, hq => exact hq.elim
def reprEv (c : Nat) (ev : FEv) (a : Env → Cs → Ev D) : Env → Cs → Ev R := fun ρ T => (a ρ T).bind fun d T1 => match d with
  | .obj c1 xs => if c1 = c then (match ev [.obj c xs] T1 with
    | .ok (.sh (.str m)) T3 => .ok (.v (.sh (.str m))) T3
    | _ => .no) else .no
  | _ => .no
/-- repr(a), of an object of the class number c with its own __repr__ -/
def cObjRepr (c : Nat) (s : DefSig) (ev : FEv) (a : CE) {sr : List Src} (B : BindOk s 1 [] sr) : CE where
  ev := reprEv c ev (evD a.ev)
  chk := fun k sc e => match e with
    | .Call (.Name x _) [y] [] _ => decide (sr = srcAll 1) && (decide (s.lv + 1 ≤ k) && (decide (x = ("repr" : Str)) && (isGl sc.nm x && (okName x && (noStars [y] && (notStar y && a.chk k sc y))))))
    | _ => false
  need := fun Γ => OwnRepr Γ c s ev ∧ Γ.mg "repr" = none ∧ a.need Γ
  z := a.z
  ok := by
    intro Γ k W sc X e n g nd h hz
    split at h
    · obtain ⟨h5, h⟩ := b2 h
      obtain ⟨h4, h⟩ := b2 h
      obtain ⟨h3, h⟩ := b2 h
      obtain ⟨h2, h⟩ := b2 h
      obtain ⟨h1, h⟩ := b2 h
      obtain ⟨h0, h⟩ := b2 h
      obtain ⟨hs, h9⟩ := b2 h
      have e5 := of_decide_eq_true h5
      subst e5
      have e3 := of_decide_eq_true h3
      subst e3
      obtain ⟨d1, _, d3⟩ := okName_d h1
      refine PE.mono (pe_callB (cr_objRepr g nd.1 B (of_decide_eq_true h4)) (isGl_ok g.nm h2) (by rw [g.mg]; exact nd.2.1) PyProof.Rows.boot_repr (pa_cons (a.ok (n := n) g nd.2.2 h9 hz) pa_nil (star_cons hs)) d3 d1 (star_cons (b2 h0).1) (noStars_back (b2 h0).2)) fun σ H Q q => ?_
      obtain ⟨I, ρ, T, own, w, er, p⟩ := q
      have p : Post Γ (RepR Γ n own) W σ H I ((evD a.ev ρ T).bind fun d T1 => match d with
        | .obj c1 xs => if c1 = c then (match ev [.obj c xs] T1 with
          | .ok (.sh (.str m)) T3 => .ok (.v (.sh (.str m))) T3
          | _ => .no) else .no
        | _ => .no) Q := p
      refine ⟨I, ρ, T, own, w, er, Post.toD ((Post.bind (rel := relD Γ) backR p).imp fun x H1 q1 => ?_)⟩
      obtain ⟨d, T1, I1, _, x1, w1, r1, p1⟩ := q1
      split at p1
      · split at p1
        · rename_i hc
          subst hc
          split at p1
          · rename_i m T3 e3
            exact ⟨x, I1, T1, _, m, T3, rfl, w1, r1, e3, fun H' I' x' w' => p1 _ H' I' x' w' (.sh .ofStr)⟩
          · exact p1.elim
        · exact p1.elim
      · exact p1.elim
    · cases h
theorem log_lt {i : Int} (h : -1000000000000000000 < i ∧ i < 1000000000000000000) : i.natAbs.log2 < 1920 := by
  by_cases h0 : i.natAbs = 0
  · rw [h0]; decide
  · rw [Nat.log2_lt h0]
    have h1 : i.natAbs < 2 ^ 60 := by
      have : (2 : Nat) ^ 60 = 1152921504606846976 := by decide
      omega
    exact Nat.lt_of_lt_of_le h1 (Nat.pow_le_pow_right (by decide) (by decide))
/-- {a} in an f-string -/
def fmtD : D → Option D
  | .str y => if y.length ≤ lim then some (.str y) else none
  | .int i => if -1000000000000000000 < i ∧ i < 1000000000000000000 then some (.str (toString i)) else none
  | _ => none
def cFmt (a : CE) : CE where
  ev := fun ρ T => (evD a.ev ρ T).bind fun d T1 => Ev.opt ((fmtD d).map fun d => .v (.sh d)) T1
  chk := fun k sc e => match e with
    | .FormattedValue y cv none _ => decide (cv = -1) && a.chk k sc y
    | _ => false
  need := a.need
  z := a.z
  ok := by
    intro Γ k W sc X e n g nd h hz
    split at h
    · obtain ⟨h1, h⟩ := b2 h
      rw [of_decide_eq_true h1]
      refine PE.mono (pe_fmt (a.ok (n := n) g nd h hz)) fun σ H Q q => ?_
      obtain ⟨I, ρ, T, own, w, er, p⟩ := q
      refine ⟨I, ρ, T, own, w, er, Post.toD ((Post.bind (rel := relD Γ) backR (show Post Γ (RepR Γ n own) W σ H I ((evD a.ev ρ T).bind fun d T1 => Ev.opt ((fmtD d).map fun d => .v (.sh d)) T1) Q from p)).imp fun x H1 q1 => ?_)⟩
      obtain ⟨d, T1, I1, _, x1, w1, r1, p1⟩ := q1
      obtain ⟨c, e3, k3⟩ := Post.opt p1
      have r2 : Rep Γ I1 d x := r1
      obtain ⟨d2, e4, rfl⟩ := Option.map_eq_some_iff.mp e3
      cases d with
      | str y =>
        have e4 : (if y.length ≤ lim then some (D.str y) else none) = some d2 := e4
        split at e4
        · rename_i hl
          cases e4
          exact .inl ⟨y, Rep.str r2, Nat.le_trans hl lim_le, k3 _ H1 I1 Ext.refl w1 (.sh .ofStr)⟩
        · cases e4
      | int i =>
        have e4 : (if -1000000000000000000 < i ∧ i < 1000000000000000000 then some (D.str (toString i)) else none) = some d2 := e4
        split at e4
        · rename_i hi
          cases e4
          exact .inr ⟨i, Rep.int r2, log_lt hi, k3 _ H1 I1 Ext.refl w1 (.sh .ofStr)⟩
        · cases e4
      | _ => cases e4
    · cases h
/-- the texts one behind the other -/
def joinEv : List (Env → Cs → Ev D) → Str → Env → Cs → Ev R
  | [], acc, _, T => .ok (.v (.sh (.str acc))) T
  | a :: ps, acc, ρ, T => (a ρ T).bind fun d T1 => match d with
    | .str y => if acc.length + y.length ≤ lim then joinEv ps (acc ++ y) ρ T1 else .no
    | _ => .no
theorem join_tree {Γ : Gam} {n : Nat} {W : WX} : ∀ (as : List (Env → Cs → Ev R)) (acc : Str) (σ : L2.St) (H : Hp) (Q : VK) , tE Γ n W (fun ρ T => joinEv (as.map evD) acc ρ T) σ H Q → tJs (as.map fun a => tE Γ n W a) acc σ H (fun out H1 => Q (.str out) H1)
  | [], acc, σ, H, Q, q => by
    obtain ⟨I, ρ, T, own, w, er, p⟩ := q
    exact p _ H I Ext.refl w (.sh .ofStr)
  | a :: as, acc, σ, H, Q, q => by
    obtain ⟨I, ρ, T, own, w, er, p⟩ := q
    show tE Γ n W a σ H fun x H1 => _
    refine ⟨I, ρ, T, own, w, er, Post.toD ((Post.bind (rel := relD Γ) backR (show Post Γ (RepR Γ n own) W σ H I ((evD a ρ T).bind _) Q from p)).imp fun x H1 q1 => ?_)⟩
    obtain ⟨d, T1, I1, _, x1, w1, r1, p1⟩ := q1
    have r2 : Rep Γ I1 d x := r1
    cases d with
    | str y =>
      have p1 : Post Γ (RepR Γ n own) W σ H1 I1 (if acc.length + y.length ≤ lim then joinEv (as.map evD) (acc ++ y) ρ T1 else .no) Q := p1
      split at p1
      · rename_i hl
        refine ⟨y, Rep.str r2, by rw [Str.length_append]; exact Nat.le_trans hl lim_le, ?_⟩
        exact join_tree as (acc ++ y) σ H1 Q ⟨I1, ρ, T1, own, w1, er.ext x1, p1⟩
      · exact p1.elim
    | _ => exact p1.elim
def chkJ (k : Nat) (sc : Sc) : List CE → List Expr → Bool
  | [], [] => true
  | a :: as, e :: es => a.chk k sc e && chkJ k sc as es
  | _, _ => false
def needJ (Γ : Gam) : List CE → Prop
  | [] => True
  | a :: as => a.need Γ ∧ needJ Γ as
theorem pj_of {Γ : Gam} {k : Nat} {W : WX} {sc : Sc} {X : Cx} {n : Nat} (g : Good Γ k W sc X) : ∀ (as : List CE) (es : List Expr), needJ Γ as → chkJ k sc as es = true → (as.any (fun a => a.z) = true → n = X.s_0.heap.objs.size) → PJ X es ((as.map fun a => a.ev).map fun a => tE Γ n W a)
  | [], [], _, _, _ => .nil
  | a :: as, e :: es, nd, h, hz => by
    obtain ⟨h1, h2⟩ := b2 (show (a.chk k sc e && chkJ k sc as es) = true from h)
    exact .cons (a.ok g nd.1 h1 fun z => hz (by show (a.z || as.any fun a => a.z) = true; rw [z]; rfl)) (pj_of g as es nd.2 h2 fun z => hz (by show (a.z || as.any fun a => a.z) = true; rw [z]; cases a.z <;> rfl))
  | [], _ :: _, _, h, _ => by cases h
  | _ :: _, [], _, h, _ => by cases h
/-- f'..' of two parts or more -/
def cJoin (as : List CE) : CE where
  ev := fun ρ T => joinEv ((as.map fun a => a.ev).map evD) Str.empty ρ T
  chk := fun k sc e => match e with
    | .JoinedStr (v1 :: v2 :: r) _ => chkJ k sc as (v1 :: v2 :: r)
    | _ => false
  need := fun Γ => needJ Γ as
  z := as.any fun a => a.z
  ok := by
    intro Γ k W sc X e n g nd h hz
    split at h
    · exact PE.mono (pe_joined (pj_of (n := n) g as _ nd h hz)) fun σ H Q q => join_tree (as.map fun a => a.ev) Str.empty σ H Q q
    · cases h
def reprB (K : PySem.W.Frag) (C : Str) : Bool := (PySem.W.findIn K (.ref (He.ga K C)) "__repr__" == some (some (.ref (He.fAd K (C, some "__repr__"))))) && PySem.W.isFn K (.ref (He.fAd K (C, some "__repr__")))
theorem reprB_ok {Γ : Gam} {c : Nat} {s : DefSig} {ev : FEv} (CF : ClsFull Γ c) (F : FnIs Γ s ev (He.fAd Γ.K ((cdT c).1, some "__repr__"))) (h : reprB Γ.K (cdT c).1 = true) : OwnRepr Γ c s ev := by
  unfold reprB at h
  obtain ⟨h1, h2⟩ := b2 h
  exact ⟨CF, ⟨_, beq_iff_eq.mp h1, h2, F⟩⟩
end Tp
end
section
set_option Elab.async false
set_option linter.all false
set_option maxRecDepth 100000
set_option maxHeartbeats 2000000
/-! TqZ: a == b, a != b of an object with its own __eq__ and a list. -/
namespace Tp
open PySem PySem.Spec PyProof.Rows L2
def rObjEqL (Γ : Gam) (c : Nat) (neg : Bool) (ev : FEv) : R2 := fun x y H Q => ∃ I T xs ys r T3, Wf Γ H I T ∧ Rep Γ I (.obj c xs) x ∧ Rep Γ I (.lst ys) y ∧ ev [.obj c xs, .lst ys] T = .ok (.sh (.bl r)) T3 ∧
  ∀ H' I', Tp.Ext O0 H I H' I' → Wf Γ H' I' T3 → Q (.bl (if neg then !r else r)) H'
theorem op_objEqL {Γ : Gam} {k : Nat} {W : WX} {sc : Sc} {X : Cx} {c : Nat} {s : DefSig} {ev : FEv} (neg : Bool) (g : Good Γ k W sc X) (O : OwnEq Γ c s ev) (B : BindOk s 2 [] (srcAll 2)) (hlv : s.lv + 1 ≤ k) (hsub : PySem.W.subIn Γ.K (.type "list") (.ref (cAd Γ c)) = some false) : OpR X (compareOp (negOp neg)) (rObjEqL Γ c neg ev) := by
  intro pins sh σ H x y v u Q Iv rx ry h
  obtain ⟨I, T, xs, ys, r, T3, w, ra, rb, e3, q⟩ := h
  obtain ⟨CF, ⟨f, hs, hf, F⟩, hne⟩ := O
  have ra' := ra
  have rb' := rb
  simp only [Rep] at ra' rb'
  obtain ⟨a, dx, us, rfl, h4, _, _⟩ := ra'
  obtain ⟨b, vs, rfl, h5, _⟩ := rb'
  rw [CF.cd] at h4
  obtain rfl : v = Value.ref a := rx
  obtain rfl : u = Value.ref b := ry
  obtain ⟨fd, FD, FG⟩ := F.fn
  obtain ⟨mA, J, _⟩ := ins_get Iv.hok (w.gh _ _ h4)
  obtain ⟨zz, itsL, nL, rL, hlL, eL⟩ := Iv.lstM (w.gh _ _ h5)
  obtain ⟨od, J, _⟩ := J.look
  have J' : PySem.W.Looks (model X.prog X.w) sh.heap (typeOf (.ref b)) (.type "list") := fun A Q E s k q => wpAny_typeOf_ref (k _ _ eL) q
  have hnf : PySem.W.notFirst X.K (cAd Γ c) (.type "list") = true := by unfold PySem.W.notFirst; rw [g.K, hsub]; simp
  have KX : X.K.In sh.heap := Iv.kIn
  have KI : Γ.K.In sh.heap := by rw [← g.K]; exact Iv.kIn
  obtain ⟨its, ri, hb⟩ := bind_of (sh := sh) B FD KI (us := [.ref a, .ref b]) (ws := []) rfl rfl
  have e0 : Env0 Γ.P Γ.w Γ.K Γ.mg Γ.base X.A X.stack sh H := by
    have := Iv.env0
    rw [g.prog, g.w, g.K, g.mg, g.base] at this
    exact this
  have hsp : ∀ Q' : VK, (∀ H', Q (.bl (if neg then !r else r)) H' → Q' (.bl r) H') → spD Γ s.ps.length ev (sel .non ([V.ref a, V.ref b] ++ []) (s.dfl.map constV) (srcAll 2)) H Q' (fun _ _ _ => False) := fun Q' hQ => by
    refine ⟨I, T, [.obj c xs, .lst ys], w, Reps.cons ra (Reps.cons rb Reps.nil), B.len, ?_⟩
    rw [e3]
    refine fun v H' I' as x' w' r' q' => ?_
    obtain ⟨_, r2⟩ := r'
    rw [Rep.bl r2]
    exact hQ _ (q H' I' x' w')
  have vv : Paired RelV [V.ref a, V.ref b] [Value.ref a, Value.ref b] := .cons rfl (.cons rfl .nil)
  have hs' : PySem.W.findIn X.K (.ref (cAd Γ c)) "__eq__" = some (some (.ref f)) := by rw [g.K]; exact hs
  have hf' : PySem.W.isFn X.K (.ref f) = true := by rw [g.K]; exact hf
  cases neg with
  | false =>
    obtain ⟨m, hF⟩ := Iv.fr
    show wpAny (model X.prog X.w) X.A (richCompare .Eq (.ref a) (.ref b)) (EP X pins σ Q) X.xe sh
    refine PySem.W.cmp_K (op := .Eq) (tb := .type "list") g.room.units0 hF Iv.ok.mod.kin J J' hnf hs' hf' ?_
    have hrun := FG.run X.A X.stack sh H ⟨[.ref a, .ref b], []⟩ _ _ (fun v H' => ∃ r0, v = .bl r0 ∧ Q v H') (fun _ _ _ => False) g.gd (g.room.mono (by omega)) e0 hb (Tp.Vals.sel vv ri _) (hsp _ fun H' h => ⟨r, rfl, h⟩)
    rw [← g.prog, ← g.w] at hrun
    refine wpAny_call (codeAny_mono hrun ?_)
    rintro r' s' hq
    match r', hq with
    | .error er, hq =>
      obtain ⟨_, _, _, _, _, _, _, _, _, _, _, _, z⟩ := hq
      exact z.elim
    | .ok (.ret u), hq =>
      obtain ⟨v, H', I3, rv, r0, rfl, q3⟩ := Iv.after hq
      cases rv
      exact ⟨.bl r0, H', I3, rfl, q3⟩
    | .ok .next, hq => exact hq.elim
    | .ok .brk, hq => exact hq.elim
    | .ok .cont, hq => exact hq.elim
  | true =>
    show wpAny (model X.prog X.w) X.A (richCompare .NotEq (.ref a) (.ref b)) (EP X pins σ Q) X.xe sh
    refine HN.ne_K (tb := .type "list") (by have := g.room.un; omega) KX J J' hnf (by rw [g.K]; exact CF.hm) hs' hf' (by rw [g.K]; exact hne) ?_
    have hrun := FG.run X.A.in1 X.stack sh H ⟨[.ref a, .ref b], []⟩ _ _ (fun v H' => ∃ r0, v = .bl r0 ∧ Q (.bl (!r0)) H') (fun _ _ _ => False) g.gd ((g.room.mono hlv).in1) e0.in1 hb (Tp.Vals.sel vv ri _) (hsp _ fun H' h => ⟨r, rfl, h⟩)
    rw [← g.prog, ← g.w] at hrun
    refine wpAny_call (codeAny_mono hrun ?_)
    rintro r' s' hq
    match r', hq with
    | .error er, hq =>
      obtain ⟨_, _, _, _, _, _, _, _, _, _, _, _, z⟩ := hq
      exact z.elim
    | .ok (.ret u), hq =>
      obtain ⟨v, H', I3, rv, r0, rfl, q3⟩ := Iv.after hq
      cases rv
      exact ⟨r0, rfl, .bl (!r0), H', I3, rfl, q3⟩
    | .ok .next, hq => exact hq.elim
    | .ok .brk, hq => exact hq.elim
    | .ok .cont, hq => exact hq.elim
def objEvL (neg : Bool) (c : Nat) (ev : FEv) (a b : Env → Cs → Ev D) : Env → Cs → Ev R := fun ρ T => (a ρ T).bind fun d T1 => (b ρ T1).bind fun e T2 => match d, e with
  | .obj c1 xs, .lst ys => if c1 = c then (match ev [.obj c xs, .lst ys] T2 with
    | .ok (.sh (.bl r)) T3 => .ok (.v (.sh (.bl (if neg then !r else r)))) T3
    | _ => .no) else .no
  | _, _ => .no
theorem objL_tree {Γ : Gam} {n : Nat} {W : WX} {neg : Bool} {c : Nat} {ev : FEv} {a b : Env → Cs → Ev R} : ∀ σ H Q, tE Γ n W (objEvL neg c ev (evD a) (evD b)) σ H Q → tOp (rObjEqL Γ c neg ev) (tE Γ n W a) (tE Γ n W b) σ H Q := fun σ H Q q => by
  obtain ⟨I, ρ, T, own, w, er, p⟩ := q
  have p : Post Γ (RepR Γ n own) W σ H I ((evD a ρ T).bind fun d T1 => (evD b ρ T1).bind fun e T2 => match d, e with
    | .obj c1 xs, .lst ys => if c1 = c then (match ev [.obj c xs, .lst ys] T2 with
      | .ok (.sh (.bl r)) T3 => .ok (.v (.sh (.bl (if neg then !r else r)))) T3
      | _ => .no) else .no
    | _, _ => .no) Q := p
  refine ⟨I, ρ, T, own, w, er, Post.toD ((Post.bind (rel := relD Γ) backR p).imp fun x H1 q1 => ?_)⟩
  obtain ⟨d, T1, I1, _, x1, w1, r1, p1⟩ := q1
  refine ⟨I1, ρ, T1, own, w1, er.ext x1, Post.toD ((Post.bind (rel := relD Γ) backR p1).imp fun y H2 q2 => ?_)⟩
  obtain ⟨e, T2, I2, _, x2, w2, r2, p2⟩ := q2
  have r1 : Rep Γ I2 d x := (show Rep Γ I1 d x from r1).mono x2.le
  have r2 : Rep Γ I2 e y := r2
  split at p2
  · split at p2
    · rename_i hc
      subst hc
      split at p2
      · rename_i r T3 e3
        exact ⟨I2, T2, _, _, r, T3, w2, r1, r2, e3, fun H' I' x' w' => p2 _ H' I' x' w' (.sh .ofBl)⟩
      · exact p2.elim
    · exact p2.elim
  · exact p2.elim
/-- a == b (neg: a != b), objects of the class number c -/
def cObjEqL (neg : Bool) (c : Nat) (s : DefSig) (ev : FEv) (a b : CE) {sr : List Src} (B : BindOk s 2 [] sr) : CE where
  ev := objEvL neg c ev (evD a.ev) (evD b.ev)
  chk := fun k sc e => match e with
    | .Compare x [op] [y] _ => decide (sr = srcAll 2) && (decide (s.lv + 1 ≤ k) && ((op == negOp neg) && (notSet y && (a.chk k sc x && b.chk k sc y))))
    | _ => false
  need := fun Γ => (OwnEq Γ c s ev ∧ PySem.W.subIn Γ.K (.type "list") (.ref (cAd Γ c)) = some false) ∧ a.need Γ ∧ b.need Γ
  z := a.z || b.z
  ok := by
    intro Γ k W sc X e n g nd h hz
    split at h
    · obtain ⟨h5, h⟩ := b2 h
      obtain ⟨h4, h⟩ := b2 h
      obtain ⟨h1, h⟩ := b2 h
      obtain ⟨h0, h⟩ := b2 h
      obtain ⟨h2, h3⟩ := b2 h
      have e5 := of_decide_eq_true h5
      subst e5
      rw [eq_of_beq h1]
      exact PE.mono (pe_cmpR (op_objEqL neg g nd.1.1 B (of_decide_eq_true h4) nd.1.2) (a.ok g nd.2.1 h2 (or1 hz).1) (b.ok g nd.2.2 h3 (or1 hz).2) (notSet_ok h0 _)) objL_tree
    · cases h
def subB (K : PySem.W.Frag) (C : Str) : Bool := PySem.W.subIn K (.type "list") (.ref (He.ga K C)) == some false
theorem subB_ok {Γ : Gam} {c : Nat} (h : subB Γ.K (cdT c).1 = true) : PySem.W.subIn Γ.K (.type "list") (.ref (cAd Γ c)) = some false := beq_iff_eq.mp h
end Tp
end
section
set_option Elab.async false
set_option linter.all false
set_option maxRecDepth 100000
set_option maxHeartbeats 2000000
/-! TrA: a == b, a != b of an object with its own __eq__ and a list, a tuple or a text. -/
namespace Tp
open PySem PySem.Spec PyProof.Rows L2
def tyOf : D → Option String
  | .lst _ => some "list"
  | .tup _ => some "tuple"
  | .str _ => some "str"
  | _ => none
theorem looks_of {Γ : Gam} {X : Cx} {pins : List (Addr × Obj)} {σ : L2.St} {H : Hp} {I : Im} {T : Cs} {sh : Shared} (Iv : L2.Inv X pins σ H sh) (w : Wf Γ H I T) (hK : X.K = Γ.K) {d : D} {y : V} {u : Value} {ty : String} (ht : tyOf d = some ty) (r : Rep Γ I d y) (ry : RelV y u) : PySem.W.Looks (model X.prog X.w) sh.heap (typeOf u) (.type ty) := by
  cases d with
  | lst ys =>
    cases ht
    simp only [Rep] at r
    obtain ⟨b, vs, rfl, h5, _⟩ := r
    obtain rfl : u = Value.ref b := ry
    obtain ⟨zz, itsL, nL, rL, hlL, eL⟩ := Iv.lstM (w.gh _ _ h5)
    exact fun A Q E s k q => wpAny_typeOf_ref (k _ _ eL) q
  | tup ys =>
    cases ht
    obtain ⟨b, vs, rfl, sq, _⟩ := Rep.tup r
    obtain rfl : u = Value.ref b := ry
    obtain ⟨its, rv, ⟨o, ho, hc, _⟩, _⟩ := Iv.tuple (xs := vs) (a := b) (by rw [hK]; exact SqT.ext (fun a o e => w.gh a o e) sq)
    refine fun A Q E s k q => wpAny_typeOf_ref (k _ _ ho) ?_
    rw [hc]; exact q
  | str s =>
    cases ht
    rw [Rep.str r] at ry
    obtain ⟨t, rfl⟩ := ry
    exact PySem.W.Looks.of_pure rfl
  | _ => cases ht
def rObjEqD (Γ : Gam) (tys : List String) (c : Nat) (neg : Bool) (ev : FEv) : R2 := fun x y H Q => ∃ I T xs d ty r T3, Wf Γ H I T ∧ tyOf d = some ty ∧ ty ∈ tys ∧ Rep Γ I (.obj c xs) x ∧ Rep Γ I d y ∧ ev [.obj c xs, d] T = .ok (.sh (.bl r)) T3 ∧
  ∀ H' I', Tp.Ext O0 H I H' I' → Wf Γ H' I' T3 → Q (.bl (if neg then !r else r)) H'
theorem op_objEqD {Γ : Gam} {k : Nat} {W : WX} {sc : Sc} {X : Cx} {c : Nat} {s : DefSig} {ev : FEv} {tys : List String} (neg : Bool) (g : Good Γ k W sc X) (O : OwnEq Γ c s ev) (B : BindOk s 2 [] (srcAll 2)) (hlv : s.lv + 1 ≤ k) (hsub : ∀ ty, ty ∈ tys → PySem.W.subIn Γ.K (.type ty) (.ref (cAd Γ c)) = some false) : OpR X (compareOp (negOp neg)) (rObjEqD Γ tys c neg ev) := by
  intro pins sh σ H x y v u Q Iv rx ry h
  obtain ⟨I, T, xs, d, ty, r, T3, w, hty, hmem, ra, rb, e3, q⟩ := h
  obtain ⟨CF, ⟨f, hs, hf, F⟩, hne⟩ := O
  have ra' := ra
  simp only [Rep] at ra'
  obtain ⟨a, dx, us, rfl, h4, _, _⟩ := ra'
  rw [CF.cd] at h4
  obtain rfl : v = Value.ref a := rx
  obtain ⟨fd, FD, FG⟩ := F.fn
  obtain ⟨mA, J, _⟩ := ins_get Iv.hok (w.gh _ _ h4)
  obtain ⟨od, J, _⟩ := J.look
  have J' : PySem.W.Looks (model X.prog X.w) sh.heap (typeOf u) (.type ty) := looks_of Iv w g.K hty rb ry
  have hnf : PySem.W.notFirst X.K (cAd Γ c) (.type ty) = true := by unfold PySem.W.notFirst; rw [g.K, hsub ty hmem]; simp
  have KX : X.K.In sh.heap := Iv.kIn
  have KI : Γ.K.In sh.heap := by rw [← g.K]; exact Iv.kIn
  obtain ⟨its, ri, hb⟩ := bind_of (sh := sh) B FD KI (us := [.ref a, u]) (ws := []) rfl rfl
  have e0 : Env0 Γ.P Γ.w Γ.K Γ.mg Γ.base X.A X.stack sh H := by
    have := Iv.env0
    rw [g.prog, g.w, g.K, g.mg, g.base] at this
    exact this
  have hsp : ∀ Q' : VK, (∀ H', Q (.bl (if neg then !r else r)) H' → Q' (.bl r) H') → spD Γ s.ps.length ev (sel .non ([V.ref a, y] ++ []) (s.dfl.map constV) (srcAll 2)) H Q' (fun _ _ _ => False) := fun Q' hQ => by
    refine ⟨I, T, [.obj c xs, d], w, Reps.cons ra (Reps.cons rb Reps.nil), B.len, ?_⟩
    rw [e3]
    refine fun v H' I' as x' w' r' q' => ?_
    obtain ⟨_, r2⟩ := r'
    rw [Rep.bl r2]
    exact hQ _ (q H' I' x' w')
  have vv : Paired RelV [V.ref a, y] [Value.ref a, u] := .cons rfl (.cons ry .nil)
  have hs' : PySem.W.findIn X.K (.ref (cAd Γ c)) "__eq__" = some (some (.ref f)) := by rw [g.K]; exact hs
  have hf' : PySem.W.isFn X.K (.ref f) = true := by rw [g.K]; exact hf
  cases neg with
  | false =>
    obtain ⟨m, hF⟩ := Iv.fr
    show wpAny (model X.prog X.w) X.A (richCompare .Eq (.ref a) u) (EP X pins σ Q) X.xe sh
    refine PySem.W.cmp_K (op := .Eq) (tb := .type ty) g.room.units0 hF Iv.ok.mod.kin J J' hnf hs' hf' ?_
    have hrun := FG.run X.A X.stack sh H ⟨[.ref a, u], []⟩ _ _ (fun v H' => ∃ r0, v = .bl r0 ∧ Q v H') (fun _ _ _ => False) g.gd (g.room.mono (by omega)) e0 hb (Tp.Vals.sel vv ri _) (hsp _ fun H' h => ⟨r, rfl, h⟩)
    rw [← g.prog, ← g.w] at hrun
    refine wpAny_call (codeAny_mono hrun ?_)
    rintro r' s' hq
    match r', hq with
    | .error er, hq =>
      obtain ⟨_, _, _, _, _, _, _, _, _, _, _, _, z⟩ := hq
      exact z.elim
    | .ok (.ret u2), hq =>
      obtain ⟨v, H', I3, rv, r0, rfl, q3⟩ := Iv.after hq
      cases rv
      exact ⟨.bl r0, H', I3, rfl, q3⟩
    | .ok .next, hq => exact hq.elim
    | .ok .brk, hq => exact hq.elim
    | .ok .cont, hq => exact hq.elim
  | true =>
    show wpAny (model X.prog X.w) X.A (richCompare .NotEq (.ref a) u) (EP X pins σ Q) X.xe sh
    refine HN.ne_K (tb := .type ty) (by have := g.room.un; omega) KX J J' hnf (by rw [g.K]; exact CF.hm) hs' hf' (by rw [g.K]; exact hne) ?_
    have hrun := FG.run X.A.in1 X.stack sh H ⟨[.ref a, u], []⟩ _ _ (fun v H' => ∃ r0, v = .bl r0 ∧ Q (.bl (!r0)) H') (fun _ _ _ => False) g.gd ((g.room.mono hlv).in1) e0.in1 hb (Tp.Vals.sel vv ri _) (hsp _ fun H' h => ⟨r, rfl, h⟩)
    rw [← g.prog, ← g.w] at hrun
    refine wpAny_call (codeAny_mono hrun ?_)
    rintro r' s' hq
    match r', hq with
    | .error er, hq =>
      obtain ⟨_, _, _, _, _, _, _, _, _, _, _, _, z⟩ := hq
      exact z.elim
    | .ok (.ret u2), hq =>
      obtain ⟨v, H', I3, rv, r0, rfl, q3⟩ := Iv.after hq
      cases rv
      exact ⟨r0, rfl, .bl (!r0), H', I3, rfl, q3⟩
    | .ok .next, hq => exact hq.elim
    | .ok .brk, hq => exact hq.elim
    | .ok .cont, hq => exact hq.elim
/-- which kinds -/
def tysAll : List String := ["list", "tuple", "str"]
def objDK (neg : Bool) (c : Nat) (ev : FEv) (T2 : Cs) (d e : D) : Ev R := match d with
  | .obj c1 xs => if c1 = c ∧ (tyOf e).isSome = true then (match ev [.obj c xs, e] T2 with
    | .ok (.sh (.bl r)) T3 => .ok (.v (.sh (.bl (if neg then !r else r)))) T3
    | _ => .no) else .no
  | _ => .no
def objEvD (neg : Bool) (c : Nat) (ev : FEv) (a b : Env → Cs → Ev D) : Env → Cs → Ev R := fun ρ T => (a ρ T).bind fun d T1 => (b ρ T1).bind fun e T2 => objDK neg c ev T2 d e
theorem tyOf_mem {e : D} {ty : String} (h : tyOf e = some ty) : ty ∈ tysAll := by
  cases e <;> first | (cases h; simp [tysAll]; done) | cases h
theorem objD_tree {Γ : Gam} {n : Nat} {W : WX} {neg : Bool} {c : Nat} {ev : FEv} {a b : Env → Cs → Ev R} : ∀ σ H Q, tE Γ n W (objEvD neg c ev (evD a) (evD b)) σ H Q → tOp (rObjEqD Γ tysAll c neg ev) (tE Γ n W a) (tE Γ n W b) σ H Q := fun σ H Q q => by
  obtain ⟨I, ρ, T, own, w, er, p⟩ := q
  have p : Post Γ (RepR Γ n own) W σ H I ((evD a ρ T).bind fun d T1 => (evD b ρ T1).bind fun e T2 => objDK neg c ev T2 d e) Q := p
  refine ⟨I, ρ, T, own, w, er, Post.toD ((Post.bind (rel := relD Γ) backR p).imp fun x H1 q1 => ?_)⟩
  obtain ⟨d, T1, I1, _, x1, w1, r1, p1⟩ := q1
  refine ⟨I1, ρ, T1, own, w1, er.ext x1, Post.toD ((Post.bind (rel := relD Γ) backR p1).imp fun y H2 q2 => ?_)⟩
  obtain ⟨e, T2, I2, _, x2, w2, r2, p2⟩ := q2
  have r1 : Rep Γ I2 d x := (show Rep Γ I1 d x from r1).mono x2.le
  have r2 : Rep Γ I2 e y := r2
  unfold objDK at p2
  split at p2
  · split at p2
    · rename_i hc
      obtain ⟨hc, hs⟩ := hc
      subst hc
      obtain ⟨ty, hty⟩ := Option.isSome_iff_exists.mp hs
      split at p2
      · rename_i r T3 e3
        exact ⟨I2, T2, _, e, ty, r, T3, w2, hty, tyOf_mem hty, r1, r2, e3, fun H' I' x' w' => p2 _ H' I' x' w' (.sh .ofBl)⟩
      · exact p2.elim
    · exact p2.elim
  · exact p2.elim
/-- a == b (neg: a != b), a of the class number c, b a list, a tuple or a text -/
def cObjEqD (neg : Bool) (c : Nat) (s : DefSig) (ev : FEv) (a b : CE) {sr : List Src} (B : BindOk s 2 [] sr) : CE where
  ev := objEvD neg c ev (evD a.ev) (evD b.ev)
  chk := fun k sc e => match e with
    | .Compare x [op] [y] _ => decide (sr = srcAll 2) && (decide (s.lv + 1 ≤ k) && ((op == negOp neg) && (notSet y && (a.chk k sc x && b.chk k sc y))))
    | _ => false
  need := fun Γ => (OwnEq Γ c s ev ∧ ∀ ty, ty ∈ tysAll → PySem.W.subIn Γ.K (.type ty) (.ref (cAd Γ c)) = some false) ∧ a.need Γ ∧ b.need Γ
  z := a.z || b.z
  ok := by
    intro Γ k W sc X e n g nd h hz
    split at h
    · obtain ⟨h5, h⟩ := b2 h
      obtain ⟨h4, h⟩ := b2 h
      obtain ⟨h1, h⟩ := b2 h
      obtain ⟨h0, h⟩ := b2 h
      obtain ⟨h2, h3⟩ := b2 h
      have e5 := of_decide_eq_true h5
      subst e5
      rw [eq_of_beq h1]
      exact PE.mono (pe_cmpR (op_objEqD neg g nd.1.1 B (of_decide_eq_true h4) nd.1.2) (a.ok g nd.2.1 h2 (or1 hz).1) (b.ok g nd.2.2 h3 (or1 hz).2) (notSet_ok h0 _)) objD_tree
    · cases h
def tObjEqD (neg : Bool) (c : Nat) (s : DefSig) (ev : FEv) (a b : CE) {sr : List Src} (B : BindOk s 2 [] sr) : CT where
  ev := evB (objEvD neg c ev (evD a.ev) (evD b.ev))
  chk := fun k sc e => match e with
    | .Compare x [op] [y] _ => decide (sr = srcAll 2) && (decide (s.lv + 1 ≤ k) && ((op == negOp neg) && (notSet y && (a.chk k sc x && b.chk k sc y))))
    | _ => false
  need := fun Γ => (OwnEq Γ c s ev ∧ ∀ ty, ty ∈ tysAll → PySem.W.subIn Γ.K (.type ty) (.ref (cAd Γ c)) = some false) ∧ a.need Γ ∧ b.need Γ
  z := a.z || b.z
  ok := by
    intro Γ k W sc X e n g nd h hz
    split at h
    · obtain ⟨h5, h⟩ := b2 h
      obtain ⟨h4, h⟩ := b2 h
      obtain ⟨h1, h⟩ := b2 h
      obtain ⟨h0, h⟩ := b2 h
      obtain ⟨h2, h3⟩ := b2 h
      have e5 := of_decide_eq_true h5
      subst e5
      rw [eq_of_beq h1]
      refine PT.mono (pt_cmpR (op_objEqD neg g nd.1.1 B (of_decide_eq_true h4) nd.1.2) (a.ok (n := n) g nd.2.1 h2 (or1 hz).1) (b.ok (n := n) g nd.2.2 h3 (or1 hz).2) (notSet_ok h0 _)) fun σ H Q q => ?_
      exact objD_tree σ H _ (tT_val σ H Q q)
    · cases h
def subsB (K : PySem.W.Frag) (C : Str) : Bool := tysAll.all fun ty => PySem.W.subIn K (.type ty) (.ref (He.ga K C)) == some false
theorem subsB_ok {Γ : Gam} {c : Nat} (h : subsB Γ.K (cdT c).1 = true) : ∀ ty, ty ∈ tysAll → PySem.W.subIn Γ.K (.type ty) (.ref (cAd Γ c)) = some false := fun ty ht => beq_iff_eq.mp (List.all_eq_true.mp h ty ht)
end Tp
end
section
set_option Elab.async false
set_option linter.all false
set_option maxRecDepth 100000
set_option maxHeartbeats 2000000
/-! TqS: the head run in three, each looked at apart (less memory). -/
namespace Tp
open PySem PySem.W PySem.Calls PyProof.Rows HandSHeadRun
theorem map3 {α β γ δ : Type} {o : Option α} {f : α → β} {g : α → γ} {h : α → δ} {a : β} {b : γ} {c : δ} (e1 : o.map f = some a) (e2 : o.map g = some b) (e3 : o.map h = some c) : o.map (fun s => (f s, g s, h s)) = some (a, b, c) := by
  cases o with
  | none => cases e1
  | some s =>
    have e1 := Option.some.inj e1
    have e2 := Option.some.inj e2
    have e3 := Option.some.inj e3
    show some (f s, g s, h s) = _
    rw [e1, e2, e3]
def RunL (r : OpenRow) (M : Nat) (w : World) : Prop :=
  ∀ os : OsState, (endF (stepQ (denQ tabQ) r.prog w) M r.prog w os).map (fun s => looksF r.prog (boot_heap w.params) s.abs) = some true
def RunS (r : OpenRow) (q : Program) (M : Nat) (loose : List PySem.Str) (w : World) : Prop :=
  ∀ os : OsState, (endF (stepQ (denQ tabQ) r.prog w) M r.prog w os).map (fun s => seenQ q loose (importedModules r.prog.main.body) (fun s => xlAt q [] s && recOk r.toRowW.records s) s.abs) = some (openGood q loose)
def RunO (r : OpenRow) (H : Hook) (ob : SharedT → H.α) (M : Nat) (w : World) : Prop :=
  ∀ os : OsState, (endF (stepQ (denQ tabQ) r.prog w) M r.prog w os).map ob = some (H.val w)
theorem run_join {r : OpenRow} {q : Program} {H : Hook} {ob : SharedT → H.α} {M : Nat} {loose : List PySem.Str} {w : World} (a : RunL r M w) (b : RunS r q M loose w) (c : RunO r H ob M w) : RunEq r q H ob M loose w := fun os => map3 (a os) (b os) (c os)
end Tp
end
section
set_option Elab.async false
set_option linter.all false
set_option maxRecDepth 100000
set_option maxHeartbeats 2000000
/-! TqW: what the head run shows, in three parts (less memory still): the functions, first half and second half; the rest. -/
namespace Tp
open PySem PySem.W PySem.Spec PySem.Calls PyProof.Rows L2 HandSHeadRun
def obs1 (n : Nat) (fa : List He.Fa) (fn : List He.DefD) (g : Addr → Option Obj) : He.AlD := forceK (He.frT g (asL g n)) (He.obsD fa fn)
def obs3 (n : Nat) (gs : List He.DefD) (ex : PySem.W.Frag → Bool) (g : Addr → Option Obj) := forceK (He.frT g (asL g n)) fun K => (ex K, (gs.all fun d => okA K (gOf K d) d), gs.map fun d => fnA K (gOf K d))
theorem obsQ_split (n : Nat) (fa : List He.Fa) (fn gs : List He.DefD) (ex : PySem.W.Frag → Bool) (k : Nat) (g : Addr → Option Obj) : obsQ n fa fn gs ex g =
    (((((obs1 n fa (fn.take k) g).1 && (obs1 n [] (fn.drop k) g).1, (obs1 n fa (fn.take k) g).2 ++ (obs1 n [] (fn.drop k) g).2), []), (obs3 n gs ex g).1), (obs3 n gs ex g).2.1, (obs3 n gs ex g).2.2) := by
  unfold obsQ obs1 obs3 bodyQ
  rw [forceK_eq, forceK_eq, forceK_eq, forceK_eq]
  generalize He.frT g (asL g n) = K
  have e1 : (fn.all fun d => d.ok K) = (((fn.take k).all fun d => d.ok K) && (fn.drop k).all fun d => d.ok K) := by rw [← List.all_append, List.take_append_drop]
  have e2 : (fn.map fun d => He.fnW K d.at_) = ((fn.take k).map fun d => He.fnW K d.at_) ++ (fn.drop k).map fun d => He.fnW K d.at_ := by rw [← List.map_append, List.take_append_drop]
  show (((((fa.all fun f => f.ok K) && fn.all fun d => d.ok K, fn.map fun d => He.fnW K d.at_), []), ex K), _, _) = ((((((fa.all fun f => f.ok K) && (fn.take k).all fun d => d.ok K) && (true && (fn.drop k).all fun d => d.ok K), _ ++ _), []), ex K), _, _)
  rw [e1, e2, Bool.true_and, Bool.and_assoc]; rfl
def RunO1 (r : OpenRow) (n : Nat) (fa : List He.Fa) (fn : List He.DefD) (M : Nat) (w : World) : Prop :=
  ∀ os : OsState, (endF (stepQ (denQ tabQ) r.prog w) M r.prog w os).map (fun s => obs1 n fa fn (HandSHeadRun.getT s)) = some (He.valD fn)
def RunO3 (r : OpenRow) (n : Nat) (gs : List He.DefD) (ex : PySem.W.Frag → Bool) (M : Nat) (w : World) : Prop :=
  ∀ os : OsState, (endF (stepQ (denQ tabQ) r.prog w) M r.prog w os).map (fun s => obs3 n gs ex (HandSHeadRun.getT s)) = some (true, true, gs.map He.DefD.val)
theorem runO_join {r : OpenRow} {n : Nat} {fa : List He.Fa} {fn gs : List He.DefD} {ex : PySem.W.Frag → Bool} {M : Nat} {w : World} (k : Nat) (a : RunO1 r n fa (fn.take k) M w) (b : RunO1 r n [] (fn.drop k) M w) (c : RunO3 r n gs ex M w) :
    RunO r (hookQ n fa fn gs ex) (fun s => obsQ n fa fn gs ex (HandSHeadRun.getT s)) M w := fun os => by
  have e := map3 (a os) (b os) (c os)
  cases ho : endF (stepQ (denQ tabQ) r.prog w) M r.prog w os with
  | none => rw [ho] at e; cases e
  | some s =>
    rw [ho] at e
    have e := Option.some.inj e
    obtain ⟨e1, e⟩ := Prod.mk.inj e
    obtain ⟨e2, e3⟩ := Prod.mk.inj e
    show some (obsQ n fa fn gs ex (HandSHeadRun.getT s)) = some (((He.valD fn, []), true), true, gs.map He.DefD.val)
    rw [obsQ_split n fa fn gs ex k, e1, e2, e3]
    show some ((((true, (fn.take k).map He.DefD.val ++ (fn.drop k).map He.DefD.val), []), true), true, gs.map He.DefD.val) = _
    rw [← List.map_append, List.take_append_drop]; rfl
end Tp
end
section
set_option Elab.async false
set_option linter.all false
set_option maxRecDepth 100000
set_option maxHeartbeats 0
namespace Lw
open PySem PySem.Spec PyProof.Rows L2 Tp
def top (i : Nat) : Stmt := PySem.Challenge.pw_turnpowers_k11_whole_fields_made.main.body.getD i (.Pass ⟨0, 0, 0, 0⟩)
def mth (i j : Nat) : Stmt := match top i with
  | .ClassDef _ _ _ b _ _ _ _ _ _ _ => b.getD j (.Pass ⟨0, 0, 0, 0⟩)
  | _ => .Pass ⟨0, 0, 0, 0⟩
def fa : List He.Fa := ([.free "divmod", .free "int", .glo "_law_draw", .free "len", .glo "_law_pick", .free "range", .free "isinstance", .glo "Field", .cls "Field", .free "bool", .glo "is_integer", .glo "is_count", .glo "PRIMES", .free "list", .glo "undone_by", .glo "without_end", .free "enumerate", .free "max", .glo "poly_rest", .glo "poly_of", .glo "told_number", .glo "poly_times", .glo "powers_by", .free "all", .free "zip", .glo "letter_turns", .glo "is_prime", .glo "are_apart", .glo "poly_less", .free "tuple"] : List He.Fa) ++ ([.glo "is_list", .int "MOST_TURNS" 12, .glo "is_figures", .glo "is_single", .glo "want_prime", .glo "is_right", .glo "want_at_most", .int "MOST_SIZE" 128, .glo "sized", .glo "all_powers", .glo "logs_by", .glo "is_in", .glo "want_field", .glo "_law_field", .free "repr", .glo "_law_size", .glo "is_modulus", .glo "is_element", .free "abs", .free "sum", .glo "_law_right", .glo "_law_pot", .mkr "Field", .meth "Field" "modulus", .meth "Field" "__repr__", .meth "Field" "__eq__", .glo "law"] : List He.Fa)
def fn : List He.DefD := ([⟨("_law_draw", none), "_law_draw", "_law_draw", defArgs (top 42), defBody (top 42), defScope (top 42), [], []⟩, ⟨("_law_pick", none), "_law_pick", "_law_pick", defArgs (top 43), defBody (top 43), defScope (top 43), [], []⟩, ⟨("_law_field", none), "_law_field", "_law_field", defArgs (top 44), defBody (top 44), defScope (top 44), [], []⟩, ⟨("_law_size", none), "_law_size", "_law_size", defArgs (top 45), defBody (top 45), defScope (top 45), [], []⟩, ⟨("is_integer", none), "is_integer", "is_integer", defArgs (top 8), defBody (top 8), defScope (top 8), [], []⟩, ⟨("is_count", none), "is_count", "is_count", defArgs (top 9), defBody (top 9), defScope (top 9), [], []⟩, ⟨("want_prime", none), "want_prime", "want_prime", defArgs (top 25), defBody (top 25), defScope (top 25), [], []⟩, ⟨("want_at_most", none), "want_at_most", "want_at_most", defArgs (top 11), defBody (top 11), defScope (top 11), [], []⟩, ⟨("sized", none), "sized", "sized", defArgs (top 34), defBody (top 34), defScope (top 34), [], []⟩, ⟨("poly_of", none), "poly_of", "poly_of", defArgs (top 30), defBody (top 30), defScope (top 30), [], []⟩] : List He.DefD) ++ ([⟨("without_end", none), "without_end", "without_end", defArgs (top 16), defBody (top 16), defScope (top 16), [], []⟩, ⟨("undone_by", none), "undone_by", "undone_by", defArgs (top 18), defBody (top 18), defScope (top 18), [], []⟩, ⟨("poly_rest", none), "poly_rest", "poly_rest", defArgs (top 17), defBody (top 17), defScope (top 17), [], []⟩, ⟨("poly_times", none), "poly_times", "poly_times", defArgs (top 19), defBody (top 19), defScope (top 19), [], []⟩, ⟨("told_number", none), "told_number", "told_number", defArgs (top 29), defBody (top 29), defScope (top 29), [], []⟩, ⟨("powers_by", none), "powers_by", "powers_by", defArgs (top 31), defBody (top 31), defScope (top 31), [], []⟩, ⟨("all_powers", none), "all_powers", "all_powers", defArgs (top 32), defBody (top 32), defScope (top 32), [], []⟩, ⟨("logs_by", none), "logs_by", "logs_by", defArgs (top 33), defBody (top 33), defScope (top 33), [], []⟩, ⟨("letter_turns", none), "letter_turns", "letter_turns", defArgs (top 22), defBody (top 22), defScope (top 22), [], []⟩, ⟨("are_apart", none), "are_apart", "are_apart", defArgs (top 21), defBody (top 21), defScope (top 21), [], []⟩] : List He.DefD) ++ ([⟨("is_prime", none), "is_prime", "is_prime", defArgs (top 24), defBody (top 24), defScope (top 24), [], []⟩, ⟨("poly_less", none), "poly_less", "poly_less", defArgs (top 20), defBody (top 20), defScope (top 20), [], []⟩, ⟨("is_single", none), "is_single", "is_single", defArgs (top 23), defBody (top 23), defScope (top 23), [], []⟩, ⟨("is_list", none), "is_list", "is_list", defArgs (top 10), defBody (top 10), defScope (top 10), [], []⟩, ⟨("is_figures", none), "is_figures", "is_figures", defArgs (top 26), defBody (top 26), defScope (top 26), [], []⟩, ⟨("is_right", none), "is_right", "is_right", defArgs (top 27), defBody (top 27), defScope (top 27), [], []⟩, ⟨("Field", some "__init__"), "__init__", "Field.__init__", defArgs (mth 35 0), defBody (mth 35 0), defScope (mth 35 0), [], []⟩, ⟨("Field", some "modulus"), "modulus", "Field.modulus", defArgs (mth 35 4), defBody (mth 35 4), defScope (mth 35 4), [], []⟩, ⟨("is_modulus", none), "is_modulus", "is_modulus", defArgs (top 28), defBody (top 28), defScope (top 28), [], []⟩, ⟨("is_in", none), "is_in", "is_in", defArgs (top 38), defBody (top 38), defScope (top 38), [], []⟩] : List He.DefD) ++ ([⟨("want_field", none), "want_field", "want_field", defArgs (top 36), defBody (top 36), defScope (top 36), [], []⟩, ⟨("is_element", none), "is_element", "is_element", defArgs (top 39), defBody (top 39), defScope (top 39), [], []⟩, ⟨("Field", some "__repr__"), "__repr__", "Field.__repr__", defArgs (mth 35 6), defBody (mth 35 6), defScope (mth 35 6), [], []⟩, ⟨("Field", some "__eq__"), "__eq__", "Field.__eq__", defArgs (mth 35 5), defBody (mth 35 5), defScope (mth 35 5), [], []⟩, ⟨("_law_right", none), "_law_right", "_law_right", defArgs (top 46), defBody (top 46), defScope (top 46), [], []⟩, ⟨("_law_pot", none), "_law_pot", "_law_pot", defArgs (top 41), defBody (top 41), defScope (top 41), [], []⟩, ⟨("law", none), "law", "law", defArgs (top 47), defBody (top 47), defScope (top 47), [], []⟩] : List He.DefD)
def gs : List He.DefD := ([⟨("Field", some "prime"), "prime", "Field.prime", defArgs (mth 35 1), defBody (mth 35 1), defScope (mth 35 1), [], []⟩, ⟨("Field", some "turns"), "turns", "Field.turns", defArgs (mth 35 2), defBody (mth 35 2), defScope (mth 35 2), [], []⟩, ⟨("Field", some "size"), "size", "Field.size", defArgs (mth 35 3), defBody (mth 35 3), defScope (mth 35 3), [], []⟩] : List He.DefD)
def ex (K : PySem.W.Frag) : Bool := (isiB K [0] (.b "int")) && (clsB K 0) && (isiB K [0] (.b "bool")) && (He.tupB K "PRIMES" (([.int 2, .int 3, .int 5, .int 7] : List D).map dvOf)) && (isiB K [0] (.b "list")) && (isiB K [0] (.b "tuple")) && (isiB K [0] (.o 0)) && (reprB K (cdT 0).1) && (eqB K (cdT 0).1) && (subsB K (cdT 0).1) && (propB K (cdT 0).1 "prime") && (propB K (cdT 0).1 "turns") && (propB K (cdT 0).1 "size") && true
end Lw
end
section
set_option Elab.async false
set_option linter.all false
set_option maxRecDepth 100000
set_option maxHeartbeats 0
namespace Lw
open PySem PySem.Spec PyProof.Rows L2 Tp
def lo : List Str := (["TurnError", "LimitError", "InvalidField", "InvalidModulus", "InvalidPrime", "TooMany", "is_integer", "is_count", "is_list", "want_at_most", "PRIMES", "MOST_SIZE", "MOST_TURNS", "without_end", "poly_rest", "undone_by", "poly_times", "poly_less", "are_apart", "letter_turns", "is_single", "is_prime", "want_prime", "is_figures", "is_right", "is_modulus", "told_number", "poly_of", "powers_by", "all_powers"] : List Str) ++ (["logs_by", "sized", "Field", "want_field", "is_in", "is_element", "_law_pot", "_law_draw", "_law_pick", "_law_field", "_law_size", "_law_right"] : List Str)
abbrev R : PySem.W.OpenRow := PySem.W.OpenLaw.row PySem.Challenge.rw_turnpowers_k11_whole_fields_made
abbrev hk : PySem.W.Hook := hookQ 6 fa fn gs ex
def ob (s : PySem.W.SharedT) : AlP := obsQ 6 fa fn gs ex (HandSHeadRun.getT s)
theorem ob_eq (s : PySem.W.SharedT) : ob s = hk.obs s.abs := obsQ_eq (HandSHeadRun.getT_eq s)
theorem runL (w : World) : Tp.RunL R 100000 w := by
  intro os
  kernel_rfl
theorem runS (w : World) : Tp.RunS R (PySem.W.view R.prog [47]) 100000 lo w := by
  intro os
  kernel_rfl
theorem runO (w : World) : Tp.RunO R hk ob 100000 w := by
  intro os
  kernel_rfl
theorem run (w : World) : HandSHeadRun.RunEq R (PySem.W.view R.prog [47]) hk ob 100000 lo w := Tp.run_join (runL w) (runS w) (runO w)
end Lw
end
section
set_option Elab.async false
set_option linter.all false
set_option maxRecDepth 100000
set_option maxHeartbeats 0
namespace Lw
open PySem PySem.Spec PyProof.Rows L2 Tp


def s__law_draw : DefSig := ⟨"_law_draw", "_law_draw", defArgs (top 42), defBody (top 42), defScope (top 42), ["_law_pot_here", "_law_sides", "_law_digit"], ["_law_pot_here", "_law_sides"], [], 1⟩
def s__law_pick : DefSig := ⟨"_law_pick", "_law_pick", defArgs (top 43), defBody (top 43), defScope (top 43), ["_law_pot_here", "_law_some"], ["_law_pot_here", "_law_some"], [], 2⟩
def s__law_field : DefSig := ⟨"_law_field", "_law_field", defArgs (top 44), defBody (top 44), defScope (top 44), ["_law_pot_here", "_law_kept"], ["_law_pot_here"], [], 3⟩
def s__law_size : DefSig := ⟨"_law_size", "_law_size", defArgs (top 45), defBody (top 45), defScope (top 45), ["_law_prime", "_law_modulus", "_law_found", "_law_turn"], ["_law_prime", "_law_modulus"], [], 1⟩
def s_is_integer : DefSig := ⟨"is_integer", "is_integer", defArgs (top 8), defBody (top 8), defScope (top 8), ["value"], ["value"], [], 1⟩
def s_is_count : DefSig := ⟨"is_count", "is_count", defArgs (top 9), defBody (top 9), defScope (top 9), ["value"], ["value"], [], 2⟩
def s_want_prime : DefSig := ⟨"want_prime", "want_prime", defArgs (top 25), defBody (top 25), defScope (top 25), ["prime"], ["prime"], [], 3⟩
def s_want_at_most : DefSig := ⟨"want_at_most", "want_at_most", defArgs (top 11), defBody (top 11), defScope (top 11), ["what", "limit", "number"], ["what", "limit", "number"], [], 1⟩
def s_sized : DefSig := ⟨"sized", "sized", defArgs (top 34), defBody (top 34), defScope (top 34), ["prime", "many", "found", "turn"], ["prime", "many"], [], 1⟩
def s_poly_of : DefSig := ⟨"poly_of", "poly_of", defArgs (top 30), defBody (top 30), defScope (top 30), ["prime", "number", "found", "left"], ["prime", "number"], [], 1⟩
def s_without_end : DefSig := ⟨"without_end", "without_end", defArgs (top 16), defBody (top 16), defScope (top 16), ["numbers", "many"], ["numbers"], [], 1⟩
def s_undone_by : DefSig := ⟨"undone_by", "undone_by", defArgs (top 18), defBody (top 18), defScope (top 18), ["prime", "number", "one"], ["prime", "number"], [], 1⟩
def s_poly_rest : DefSig := ⟨"poly_rest", "poly_rest", defArgs (top 17), defBody (top 17), defScope (top 17), ["prime", "poly", "other", "left", "turn", "shift", "factor", "at", "number"], ["prime", "poly", "other"], [], 2⟩
def s_poly_times : DefSig := ⟨"poly_times", "poly_times", defArgs (top 19), defBody (top 19), defScope (top 19), ["prime", "one", "other", "modulus", "found", "at", "near", "to", "far"], ["prime", "one", "other", "modulus"], [], 3⟩
def s_told_number : DefSig := ⟨"told_number", "told_number", defArgs (top 29), defBody (top 29), defScope (top 29), ["prime", "poly", "found", "one"], ["prime", "poly"], [], 1⟩
def s_powers_by : DefSig := ⟨"powers_by", "powers_by", defArgs (top 31), defBody (top 31), defScope (top 31), ["prime", "modulus", "number", "base", "found", "here"], ["prime", "modulus", "number"], [], 4⟩
def s_all_powers : DefSig := ⟨"all_powers", "all_powers", defArgs (top 32), defBody (top 32), defScope (top 32), ["prime", "modulus", "size", "number", "found"], ["prime", "modulus", "size"], [], 5⟩
def s_logs_by : DefSig := ⟨"logs_by", "logs_by", defArgs (top 33), defBody (top 33), defScope (top 33), ["powers", "size", "found", "place", "number"], ["powers", "size"], [], 1⟩
def s_letter_turns : DefSig := ⟨"letter_turns", "letter_turns", defArgs (top 22), defBody (top 22), defScope (top 22), ["prime", "modulus", "found", "turn", "here", "factor"], ["prime", "modulus"], [], 4⟩
def s_are_apart : DefSig := ⟨"are_apart", "are_apart", defArgs (top 21), defBody (top 21), defScope (top 21), ["prime", "one", "other", "near", "far"], ["prime", "one", "other"], [], 3⟩
def s_is_prime : DefSig := ⟨"is_prime", "is_prime", defArgs (top 24), defBody (top 24), defScope (top 24), ["number", "less"], ["number"], [], 1⟩
def s_poly_less : DefSig := ⟨"poly_less", "poly_less", defArgs (top 20), defBody (top 20), defScope (top 20), ["prime", "one", "other", "many", "near", "far", "first", "second"], ["prime", "one", "other"], [], 2⟩
def s_is_single : DefSig := ⟨"is_single", "is_single", defArgs (top 23), defBody (top 23), defScope (top 23), ["prime", "modulus", "many", "found", "parts", "less"], ["prime", "modulus"], [], 5⟩
def s_is_list : DefSig := ⟨"is_list", "is_list", defArgs (top 10), defBody (top 10), defScope (top 10), ["value"], ["value"], [], 1⟩
def s_is_figures : DefSig := ⟨"is_figures", "is_figures", defArgs (top 26), defBody (top 26), defScope (top 26), ["prime", "value", "many", "one"], ["prime", "value", "many"], [], 3⟩
def s_is_right : DefSig := ⟨"is_right", "is_right", defArgs (top 27), defBody (top 27), defScope (top 27), ["prime", "value"], ["prime", "value"], [], 6⟩
def s_Field___init__ : DefSig := ⟨"__init__", "Field.__init__", defArgs (mth 35 0), defBody (mth 35 0), defScope (mth 35 0), ["self", "prime", "modulus"], ["self", "prime", "modulus"], [], 7⟩
def s_Field_modulus : DefSig := ⟨"modulus", "Field.modulus", defArgs (mth 35 4), defBody (mth 35 4), defScope (mth 35 4), ["self"], ["self"], [], 1⟩
def s_is_modulus : DefSig := ⟨"is_modulus", "is_modulus", defArgs (top 28), defBody (top 28), defScope (top 28), ["prime", "value"], ["prime", "value"], [], 7⟩
def s_Field_prime : DefSig := ⟨"prime", "Field.prime", defArgs (mth 35 1), defBody (mth 35 1), defScope (mth 35 1), ["self"], ["self"], [], 1⟩
def s_Field_turns : DefSig := ⟨"turns", "Field.turns", defArgs (mth 35 2), defBody (mth 35 2), defScope (mth 35 2), ["self"], ["self"], [], 1⟩
def s_Field_size : DefSig := ⟨"size", "Field.size", defArgs (mth 35 3), defBody (mth 35 3), defScope (mth 35 3), ["self"], ["self"], [], 1⟩
def s_is_in : DefSig := ⟨"is_in", "is_in", defArgs (top 38), defBody (top 38), defScope (top 38), ["field", "value"], ["field", "value"], [], 3⟩
def s_want_field : DefSig := ⟨"want_field", "want_field", defArgs (top 36), defBody (top 36), defScope (top 36), ["value"], ["value"], [], 1⟩
def s_is_element : DefSig := ⟨"is_element", "is_element", defArgs (top 39), defBody (top 39), defScope (top 39), ["field", "value"], ["field", "value"], [], 4⟩
def s_Field___repr__ : DefSig := ⟨"__repr__", "Field.__repr__", defArgs (mth 35 6), defBody (mth 35 6), defScope (mth 35 6), ["self"], ["self"], [], 1⟩
def s_Field___eq__ : DefSig := ⟨"__eq__", "Field.__eq__", defArgs (mth 35 5), defBody (mth 35 5), defScope (mth 35 5), ["self", "other"], ["self", "other"], [], 1⟩
def s__law_right : DefSig := ⟨"_law_right", "_law_right", defArgs (top 46), defBody (top 46), defScope (top 46), ["_law_pot_here", "_law_prime", "_law_modulus", "_law_handed", "_law_shown", "_law_field_here", "_law_size_here", "_law_same", "_law_more", "_law_other", "_law_beside", "_law_values", "_law_value", "_law_due"], ["_law_pot_here"], [], 9⟩
def s__law_pot : DefSig := ⟨"_law_pot", "_law_pot", defArgs (top 41), defBody (top 41), defScope (top 41), ["_law_script", "_law_k", "_law_cell"], ["_law_script", "_law_k"], [], 1⟩
def s_law : DefSig := ⟨"law", "law", defArgs (top 47), defBody (top 47), defScope (top 47), ["_law_script"], ["_law_script"], [], 10⟩
def t__law_draw : CS := (sSeq (sIf (tCmp oGt (cIx (cVar 0) (cInt 0)) (cInt 0)) (sSeq (sAsgG (gTp [(gIx 0 (cInt 0)), (gNm 2)]) (cBlt bDivmod (aCons (cIx (cVar 0) (cInt 0)) (aCons (cVar 1) aNil)))) (sSeq (sRet (cVar 2)) sEnd)) sEnd) (sSeq (sAsgG (gIx 0 (cInt 1)) (cBin oMod (cBlt bInt (aCons (cBin oAdd (cBin oMul (cIx (cVar 0) (cInt 1)) (cInt 40692)) (cInt 7151)) aNil)) (cInt 2147483587))) (sSeq (sRet (cBin oMod (cBlt bInt (aCons (cBin oDiv (cBin oMod (cBlt bInt (aCons (cBin oMul (cIx (cVar 0) (cInt 1)) (cIx (cVar 0) (cInt 1))) aNil)) (cInt 2147483629)) (cInt 19)) aNil)) (cVar 1))) sEnd)))
def e__law_draw : FEv := defEv 2 3 t__law_draw.ev
theorem k__law_draw : t__law_draw.chk 0 ⟨s__law_draw.N, s__law_draw.scope.names, s__law_draw.scope.names⟩ s__law_draw.body = true := by kernel_rfl
theorem b__law_draw_2 : BindOk s__law_draw 2 [] [.a 0, .a 1] := ⟨rfl, rfl, fun _ kV doc pm an cdv ct us ws h1 h2 => match us, ws, h1, h2 with | [_, _], [], _, _ => by kernel_rfl, fun h => absurd rfl h⟩
def t__law_pick : CS := (sSeq (sRet (cIx (cVar 1) (cCall s__law_draw e__law_draw (dCons (cVar 0) (dCons (cBlt bLen (aCons (cVar 1) aNil)) dNil)) wNil [.a 0, .a 1] b__law_draw_2))) sEnd)
def e__law_pick : FEv := defEv 2 2 t__law_pick.ev
theorem k__law_pick : t__law_pick.chk 1 ⟨s__law_pick.N, s__law_pick.scope.names, s__law_pick.scope.names⟩ s__law_pick.body = true := by kernel_rfl
theorem b__law_pick_2 : BindOk s__law_pick 2 [] [.a 0, .a 1] := ⟨rfl, rfl, fun _ kV doc pm an cdv ct us ws h1 h2 => match us, ws, h1, h2 with | [_, _], [], _, _ => by kernel_rfl, fun h => absurd rfl h⟩
def t__law_field : CS := (sSeq (sAsg 1 false (cLst (dCons (cTup (dCons (cInt 2) (dCons (cLst (dCons (cInt 1) (dCons (cInt 1) (dCons (cInt 1) dNil)))) dNil))) (dCons (cTup (dCons (cInt 2) (dCons (cLst (dCons (cInt 1) (dCons (cInt 1) (dCons (cInt 0) (dCons (cInt 1) dNil))))) dNil))) (dCons (cTup (dCons (cInt 2) (dCons (cLst (dCons (cInt 1) (dCons (cInt 0) (dCons (cInt 1) (dCons (cInt 1) dNil))))) dNil))) (dCons (cTup (dCons (cInt 2) (dCons (cLst (dCons (cInt 1) (dCons (cInt 1) (dCons (cInt 0) (dCons (cInt 0) (dCons (cInt 1) dNil)))))) dNil))) dNil)))))) (sSeq (sAsg 1 false (cBin oAdd (cVar 1) (cLst (dCons (cTup (dCons (cInt 3) (dCons (cLst (dCons (cInt 1) (dCons (cInt 0) (dCons (cInt 1) dNil)))) dNil))) (dCons (cTup (dCons (cInt 3) (dCons (cLst (dCons (cInt 2) (dCons (cInt 1) (dCons (cInt 1) dNil)))) dNil))) (dCons (cTup (dCons (cInt 5) (dCons (cLst (dCons (cInt 2) (dCons (cInt 0) (dCons (cInt 1) dNil)))) dNil))) dNil)))))) (sSeq (sIf (tCmp oEq (cCall s__law_draw e__law_draw (dCons (cVar 0) (dCons (cInt 5) dNil)) wNil [.a 0, .a 1] b__law_draw_2) (cInt 0)) (sSeq (sAsg 1 false (cLst (dCons (cTup (dCons (cInt 2) (dCons (cLst (dCons (cInt 1) (dCons (cInt 0) (dCons (cInt 1) (dCons (cInt 0) (dCons (cInt 0) (dCons (cInt 1) dNil))))))) dNil))) (dCons (cTup (dCons (cInt 2) (dCons (cLst (dCons (cInt 1) (dCons (cInt 1) (dCons (cInt 0) (dCons (cInt 0) (dCons (cInt 0) (dCons (cInt 0) (dCons (cInt 1) dNil)))))))) dNil))) (dCons (cTup (dCons (cInt 3) (dCons (cLst (dCons (cInt 1) (dCons (cInt 2) (dCons (cInt 0) (dCons (cInt 1) dNil))))) dNil))) (dCons (cTup (dCons (cInt 7) (dCons (cLst (dCons (cInt 1) (dCons (cInt 0) (dCons (cInt 1) dNil)))) dNil))) dNil)))))) (sSeq (sAsg 1 false (cBin oAdd (cVar 1) (cLst (dCons (cTup (dCons (cInt 5) (dCons (cLst (dCons (cInt 1) (dCons (cInt 1) (dCons (cInt 0) (dCons (cInt 1) dNil))))) dNil))) (dCons (cTup (dCons (cInt 2) (dCons (cLst (dCons (cInt 1) (dCons (cInt 1) (dCons (cInt 0) (dCons (cInt 0) (dCons (cInt 0) (dCons (cInt 0) (dCons (cInt 0) (dCons (cInt 1) dNil))))))))) dNil))) (dCons (cTup (dCons (cInt 3) (dCons (cLst (dCons (cInt 2) (dCons (cInt 1) (dCons (cInt 0) (dCons (cInt 0) (dCons (cInt 1) dNil)))))) dNil))) dNil)))))) sEnd)) sEnd) (sSeq (sRet (cCall s__law_pick e__law_pick (dCons (cVar 0) (dCons (cVar 1) dNil)) wNil [.a 0, .a 1] b__law_pick_2)) sEnd))))
def e__law_field : FEv := defEv 1 2 t__law_field.ev
theorem k__law_field : t__law_field.chk 2 ⟨s__law_field.N, s__law_field.scope.names, s__law_field.scope.names⟩ s__law_field.body = true := by kernel_rfl
def w1__law_size : CS := (sSeq (sAsg 2 false (cBin oMul (cVar 2) (cVar 0))) sEnd)
def t__law_size : CS := (sSeq (sAsg 2 false (cInt 1)) (sSeq (sFor (gNm 3) (iRange1 (cBin oSub (cBlt bLen (aCons (cVar 1) aNil)) (cInt 1))) w1__law_size) (sSeq (sRet (cVar 2)) sEnd)))
def e__law_size : FEv := defEv 2 4 t__law_size.ev
theorem k__law_size : t__law_size.chk 0 ⟨s__law_size.N, s__law_size.scope.names, s__law_size.scope.names⟩ s__law_size.body = true := by kernel_rfl
def t_is_integer : CS := (sSeq (sRet (cAnd [(cIsi [0] (.b "int") (cVar 0)), (cNot (cIsi [0] (.b "bool") (cVar 0)))])) sEnd)
def e_is_integer : FEv := defEv 1 1 t_is_integer.ev
theorem k_is_integer : t_is_integer.chk 0 ⟨s_is_integer.N, s_is_integer.scope.names, s_is_integer.scope.names⟩ s_is_integer.body = true := by kernel_rfl
theorem b_is_integer_1 : BindOk s_is_integer 1 [] [.a 0] := ⟨rfl, rfl, fun _ kV doc pm an cdv ct us ws h1 h2 => match us, ws, h1, h2 with | [_], [], _, _ => by kernel_rfl, fun h => absurd rfl h⟩
def t_is_count : CS := (sSeq (sRet (cAnd [(cCall s_is_integer e_is_integer (dCons (cVar 0) dNil) wNil [.a 0] b_is_integer_1), (cCmp oGe (cVar 0) (cInt 0))])) sEnd)
def e_is_count : FEv := defEv 1 1 t_is_count.ev
theorem k_is_count : t_is_count.chk 1 ⟨s_is_count.N, s_is_count.scope.names, s_is_count.scope.names⟩ s_is_count.body = true := by kernel_rfl
theorem b_is_count_1 : BindOk s_is_count 1 [] [.a 0] := ⟨rfl, rfl, fun _ kV doc pm an cdv ct us ws h1 h2 => match us, ws, h1, h2 with | [_], [], _, _ => by kernel_rfl, fun h => absurd rfl h⟩
def t_want_prime : CS := (sSeq (sIf (tOr [(tNotT (tVal (cCall s_is_count e_is_count (dCons (cVar 0) dNil) wNil [.a 0] b_is_count_1))), (tCmp oNotIn (cVar 0) (cGTup "PRIMES" [.int 2, .int 3, .int 5, .int 7]))]) (sSeq sNo sEnd) sEnd) sEnd)
def e_want_prime : FEv := defEv 1 1 t_want_prime.ev
theorem k_want_prime : t_want_prime.chk 2 ⟨s_want_prime.N, s_want_prime.scope.names, s_want_prime.scope.names⟩ s_want_prime.body = true := by kernel_rfl
def t_want_at_most : CS := (sSeq (sIf (tCmp oGt (cVar 2) (cVar 1)) (sSeq sNo sEnd) sEnd) sEnd)
def e_want_at_most : FEv := defEv 3 3 t_want_at_most.ev
theorem k_want_at_most : t_want_at_most.chk 0 ⟨s_want_at_most.N, s_want_at_most.scope.names, s_want_at_most.scope.names⟩ s_want_at_most.body = true := by kernel_rfl
def w1_sized : CS := (sSeq (sAsg 2 false (cBin oMul (cVar 2) (cVar 0))) sEnd)
def t_sized : CS := (sSeq (sAsg 2 false (cInt 1)) (sSeq (sFor (gNm 3) (iRange1 (cVar 1)) w1_sized) (sSeq (sRet (cVar 2)) sEnd)))
def e_sized : FEv := defEv 2 4 t_sized.ev
theorem k_sized : t_sized.chk 0 ⟨s_sized.N, s_sized.scope.names, s_sized.scope.names⟩ s_sized.body = true := by kernel_rfl
def u1_poly_of : CT := (tCmp oGt (cVar 3) (cInt 0))
def w1_poly_of : CS := (sSeq (sAppend 2 (cBin oMod (cVar 3) (cVar 0))) (sSeq (sAsg 3 false (cBin oDiv (cVar 3) (cVar 0))) sEnd))
def t_poly_of : CS := (sSeq (sPar [2, 3] (kCons true (cLst dNil) (kCons false (cVar 1) kNil))) (sSeq (sWhile 300 u1_poly_of w1_poly_of) (sSeq (sRet (cVar 2)) sEnd)))
def e_poly_of : FEv := defEv 2 4 t_poly_of.ev
theorem k_poly_of : t_poly_of.chk 0 ⟨s_poly_of.N, s_poly_of.scope.names, s_poly_of.scope.names⟩ s_poly_of.body = true := by kernel_rfl
def u1_without_end : CT := (tAnd [(tCmp oGt (cVar 1) (cInt 0)), (tCmp oEq (cIx (cVar 0) (cBin oSub (cVar 1) (cInt 1))) (cInt 0))])
def w1_without_end : CS := (sSeq (sAsg 1 false (cBin oSub (cVar 1) (cInt 1))) sEnd)
def t_without_end : CS := (sSeq (sAsg 1 false (cBlt bLen (aCons (cVar 0) aNil))) (sSeq (sWhile 300 u1_without_end w1_without_end) (sSeq (sRet (cBlt bList (aCons (cSlice (cVar 0) none (some (cVar 1))) aNil))) sEnd)))
def e_without_end : FEv := defEv 1 2 t_without_end.ev
theorem k_without_end : t_without_end.chk 0 ⟨s_without_end.N, s_without_end.scope.names, s_without_end.scope.names⟩ s_without_end.body = true := by kernel_rfl
def y1_undone_by : CT := (tCmp oEq (cBin oMod (cBin oMul (cVar 2) (cVar 1)) (cVar 0)) (cInt 1))
def z1_undone_by : CE := (cVar 2)
def t_undone_by : CS := (sSeq (sRet (cIx (cLc (gNm 2) (iRange2 (cInt 1) (cVar 0)) (some y1_undone_by) z1_undone_by [("one", 2)]) (cInt 0))) sEnd)
def e_undone_by : FEv := defEv 2 3 t_undone_by.ev
theorem k_undone_by : t_undone_by.chk 0 ⟨s_undone_by.N, s_undone_by.scope.names, s_undone_by.scope.names⟩ s_undone_by.body = true := by kernel_rfl
theorem b_without_end_1 : BindOk s_without_end 1 [] [.a 0] := ⟨rfl, rfl, fun _ kV doc pm an cdv ct us ws h1 h2 => match us, ws, h1, h2 with | [_], [], _, _ => by kernel_rfl, fun h => absurd rfl h⟩
theorem b_undone_by_2 : BindOk s_undone_by 2 [] [.a 0, .a 1] := ⟨rfl, rfl, fun _ kV doc pm an cdv ct us ws h1 h2 => match us, ws, h1, h2 with | [_, _], [], _, _ => by kernel_rfl, fun h => absurd rfl h⟩
def w1_poly_rest : CS := (sSeq (sAsgG (gIx 3 (cBin oAdd (cVar 5) (cVar 7))) (cBin oMod (cBin oSub (cIx (cVar 3) (cBin oAdd (cVar 5) (cVar 7))) (cBin oMul (cVar 6) (cVar 8))) (cVar 0))) sEnd)
def u1_poly_rest : CT := (tCmp oGe (cBlt bLen (aCons (cVar 3) aNil)) (cBlt bLen (aCons (cVar 2) aNil)))
def w2_poly_rest : CS := (sSeq (sPar [5, 6] (kCons false (cBin oSub (cBlt bLen (aCons (cVar 3) aNil)) (cBlt bLen (aCons (cVar 2) aNil))) (kCons false (cBin oMod (cBin oMul (cIx (cVar 3) (cNeg (cInt 1))) (cVar 4)) (cVar 0)) kNil))) (sSeq (sFor (gTp [(gNm 7), (gNm 8)]) (iEnum1 (cVar 2)) w1_poly_rest) (sFrz 3 (sSeq (sAsg 3 true (cCall s_without_end e_without_end (dCons (cVar 3) dNil) wNil [.a 0] b_without_end_1)) sEnd))))
def t_poly_rest : CS := (sSeq (sPar [3, 4] (kCons true (cCall s_without_end e_without_end (dCons (cVar 1) dNil) wNil [.a 0] b_without_end_1) (kCons false (cCall s_undone_by e_undone_by (dCons (cVar 0) (dCons (cIx (cVar 2) (cNeg (cInt 1))) dNil)) wNil [.a 0, .a 1] b_undone_by_2) kNil))) (sSeq (sWhile 300 u1_poly_rest w2_poly_rest) (sSeq (sRet (cVar 3)) sEnd)))
def e_poly_rest : FEv := defEv 3 9 t_poly_rest.ev
theorem k_poly_rest : t_poly_rest.chk 1 ⟨s_poly_rest.N, s_poly_rest.scope.names, s_poly_rest.scope.names⟩ s_poly_rest.body = true := by kernel_rfl
theorem b_poly_rest_3 : BindOk s_poly_rest 3 [] [.a 0, .a 1, .a 2] := ⟨rfl, rfl, fun _ kV doc pm an cdv ct us ws h1 h2 => match us, ws, h1, h2 with | [_, _, _], [], _, _ => by kernel_rfl, fun h => absurd rfl h⟩
def w1_poly_times : CS := (sSeq (sAsgG (gIx 4 (cBin oAdd (cVar 5) (cVar 7))) (cBin oMod (cBin oAdd (cIx (cVar 4) (cBin oAdd (cVar 5) (cVar 7))) (cBin oMul (cVar 6) (cVar 8))) (cVar 0))) sEnd)
def w2_poly_times : CS := (sSeq (sFor (gTp [(gNm 7), (gNm 8)]) (iEnum1 (cVar 2)) w1_poly_times) sEnd)
def t_poly_times : CS := (sSeq (sAsg 4 true (cBin oMul (cLst (dCons (cInt 0) dNil)) (cBlt bMax2 (aCons (cInt 0) (aCons (cBin oSub (cBin oAdd (cBlt bLen (aCons (cVar 1) aNil)) (cBlt bLen (aCons (cVar 2) aNil))) (cInt 1)) aNil))))) (sSeq (sFor (gTp [(gNm 5), (gNm 6)]) (iEnum1 (cVar 1)) w2_poly_times) (sFrz 4 (sSeq (sRet (cCall s_poly_rest e_poly_rest (dCons (cVar 0) (dCons (cVar 4) (dCons (cVar 3) dNil))) wNil [.a 0, .a 1, .a 2] b_poly_rest_3)) sEnd))))
def e_poly_times : FEv := defEv 4 9 t_poly_times.ev
theorem k_poly_times : t_poly_times.chk 2 ⟨s_poly_times.N, s_poly_times.scope.names, s_poly_times.scope.names⟩ s_poly_times.body = true := by kernel_rfl
def w1_told_number : CS := (sSeq (sAsg 2 false (cBin oAdd (cBin oMul (cVar 2) (cVar 0)) (cVar 3))) sEnd)
def t_told_number : CS := (sSeq (sAsg 2 false (cInt 0)) (sSeq (sFor (gNm 3) (iLst (cRev (cVar 1))) w1_told_number) (sSeq (sRet (cVar 2)) sEnd)))
def e_told_number : FEv := defEv 2 4 t_told_number.ev
theorem k_told_number : t_told_number.chk 0 ⟨s_told_number.N, s_told_number.scope.names, s_told_number.scope.names⟩ s_told_number.body = true := by kernel_rfl
theorem b_told_number_2 : BindOk s_told_number 2 [] [.a 0, .a 1] := ⟨rfl, rfl, fun _ kV doc pm an cdv ct us ws h1 h2 => match us, ws, h1, h2 with | [_, _], [], _, _ => by kernel_rfl, fun h => absurd rfl h⟩
theorem b_poly_times_4 : BindOk s_poly_times 4 [] [.a 0, .a 1, .a 2, .a 3] := ⟨rfl, rfl, fun _ kV doc pm an cdv ct us ws h1 h2 => match us, ws, h1, h2 with | [_, _, _, _], [], _, _ => by kernel_rfl, fun h => absurd rfl h⟩
theorem b_poly_of_2 : BindOk s_poly_of 2 [] [.a 0, .a 1] := ⟨rfl, rfl, fun _ kV doc pm an cdv ct us ws h1 h2 => match us, ws, h1, h2 with | [_, _], [], _, _ => by kernel_rfl, fun h => absurd rfl h⟩
def u1_powers_by : CT := (tCmp oNe (cVar 5) (cLst (dCons (cInt 1) dNil)))
def w1_powers_by : CS := (sSeq (sAppend 4 (cCall s_told_number e_told_number (dCons (cVar 0) (dCons (cVar 5) dNil)) wNil [.a 0, .a 1] b_told_number_2)) (sSeq (sAsg 5 false (cCall s_poly_times e_poly_times (dCons (cVar 0) (dCons (cVar 5) (dCons (cVar 3) (dCons (cVar 1) dNil)))) wNil [.a 0, .a 1, .a 2, .a 3] b_poly_times_4)) sEnd))
def t_powers_by : CS := (sSeq (sPar [3, 4, 5] (kCons false (cCall s_poly_of e_poly_of (dCons (cVar 0) (dCons (cVar 2) dNil)) wNil [.a 0, .a 1] b_poly_of_2) (kCons true (cLst (dCons (cInt 1) dNil)) (kCons false (cCall s_poly_of e_poly_of (dCons (cVar 0) (dCons (cVar 2) dNil)) wNil [.a 0, .a 1] b_poly_of_2) kNil)))) (sSeq (sWhile 300 u1_powers_by w1_powers_by) (sSeq (sRet (cVar 4)) sEnd)))
def e_powers_by : FEv := defEv 3 6 t_powers_by.ev
theorem k_powers_by : t_powers_by.chk 3 ⟨s_powers_by.N, s_powers_by.scope.names, s_powers_by.scope.names⟩ s_powers_by.body = true := by kernel_rfl
theorem b_powers_by_3 : BindOk s_powers_by 3 [] [.a 0, .a 1, .a 2] := ⟨rfl, rfl, fun _ kV doc pm an cdv ct us ws h1 h2 => match us, ws, h1, h2 with | [_, _, _], [], _, _ => by kernel_rfl, fun h => absurd rfl h⟩
def u1_all_powers : CT := (tCmp oLt (cBlt bLen (aCons (cVar 4) aNil)) (cBin oSub (cVar 2) (cInt 1)))
def w1_all_powers : CS := (sSeq (sAsg 3 false (cBin oAdd (cVar 3) (cInt 1))) (sSeq (sAsg 4 false (cCall s_powers_by e_powers_by (dCons (cVar 0) (dCons (cVar 1) (dCons (cVar 3) dNil))) wNil [.a 0, .a 1, .a 2] b_powers_by_3)) sEnd))
def t_all_powers : CS := (sSeq (sAsg 3 false (cVar 0)) (sSeq (sAsg 4 false (cCall s_powers_by e_powers_by (dCons (cVar 0) (dCons (cVar 1) (dCons (cVar 3) dNil))) wNil [.a 0, .a 1, .a 2] b_powers_by_3)) (sSeq (sWhile 300 u1_all_powers w1_all_powers) (sSeq (sRet (cVar 4)) sEnd))))
def e_all_powers : FEv := defEv 3 5 t_all_powers.ev
theorem k_all_powers : t_all_powers.chk 4 ⟨s_all_powers.N, s_all_powers.scope.names, s_all_powers.scope.names⟩ s_all_powers.body = true := by kernel_rfl
def w1_logs_by : CS := (sSeq (sAsgG (gIx 2 (cVar 4)) (cVar 3)) sEnd)
def t_logs_by : CS := (sSeq (sAsg 2 true (cBin oMul (cLst (dCons (cNeg (cInt 1)) dNil)) (cVar 1))) (sSeq (sFor (gTp [(gNm 3), (gNm 4)]) (iEnum1 (cVar 0)) w1_logs_by) (sSeq (sRet (cVar 2)) sEnd)))
def e_logs_by : FEv := defEv 2 5 t_logs_by.ev
theorem k_logs_by : t_logs_by.chk 0 ⟨s_logs_by.N, s_logs_by.scope.names, s_logs_by.scope.names⟩ s_logs_by.body = true := by kernel_rfl
def w1_letter_turns : CS := (sSeq (sAsg 4 false (cCall s_poly_times e_poly_times (dCons (cVar 0) (dCons (cVar 4) (dCons (cIx (cVar 2) (cNeg (cInt 1))) (dCons (cVar 1) dNil)))) wNil [.a 0, .a 1, .a 2, .a 3] b_poly_times_4)) sEnd)
def w2_letter_turns : CS := (sSeq (sAsg 4 false (cLst (dCons (cInt 1) dNil))) (sSeq (sFor (gNm 5) (iRange1 (cVar 0)) w1_letter_turns) (sSeq (sAppend 2 (cVar 4)) sEnd)))
def t_letter_turns : CS := (sSeq (sAsg 2 true (cLst (dCons (cCall s_poly_rest e_poly_rest (dCons (cVar 0) (dCons (cLst (dCons (cInt 0) (dCons (cInt 1) dNil))) (dCons (cVar 1) dNil))) wNil [.a 0, .a 1, .a 2] b_poly_rest_3) dNil))) (sSeq (sFor (gNm 3) (iRange1 (cBin oSub (cBlt bLen (aCons (cVar 1) aNil)) (cInt 1))) w2_letter_turns) (sSeq (sRet (cVar 2)) sEnd)))
def e_letter_turns : FEv := defEv 2 6 t_letter_turns.ev
theorem k_letter_turns : t_letter_turns.chk 3 ⟨s_letter_turns.N, s_letter_turns.scope.names, s_letter_turns.scope.names⟩ s_letter_turns.body = true := by kernel_rfl
def u1_are_apart : CT := (tCmp oGt (cBlt bLen (aCons (cVar 4) aNil)) (cInt 0))
def w1_are_apart : CS := (sSeq (sPar [3, 4] (kCons false (cVar 4) (kCons false (cCall s_poly_rest e_poly_rest (dCons (cVar 0) (dCons (cVar 3) (dCons (cVar 4) dNil))) wNil [.a 0, .a 1, .a 2] b_poly_rest_3) kNil))) sEnd)
def t_are_apart : CS := (sSeq (sPar [3, 4] (kCons false (cVar 1) (kCons false (cVar 2) kNil))) (sSeq (sWhile 300 u1_are_apart w1_are_apart) (sSeq (sRet (cCmp oEq (cBlt bLen (aCons (cVar 3) aNil)) (cInt 1))) sEnd)))
def e_are_apart : FEv := defEv 3 5 t_are_apart.ev
theorem k_are_apart : t_are_apart.chk 2 ⟨s_are_apart.N, s_are_apart.scope.names, s_are_apart.scope.names⟩ s_are_apart.body = true := by kernel_rfl
def z1_is_prime : CE := (cCmp oNe (cBin oMod (cVar 0) (cVar 1)) (cInt 0))
def t_is_prime : CS := (sSeq (sRet (cBlt bAll (aCons (cLc (gNm 1) (iRange2 (cInt 2) (cVar 0)) none z1_is_prime [("less", 1)]) aNil))) sEnd)
def e_is_prime : FEv := defEv 1 2 t_is_prime.ev
theorem k_is_prime : t_is_prime.chk 0 ⟨s_is_prime.N, s_is_prime.scope.names, s_is_prime.scope.names⟩ s_is_prime.body = true := by kernel_rfl
def z1_poly_less : CE := (cBin oMod (cBin oSub (cVar 6) (cVar 7)) (cVar 0))
def t_poly_less : CS := (sSeq (sAsg 3 false (cBlt bMax2 (aCons (cBlt bLen (aCons (cVar 1) aNil)) (aCons (cBlt bLen (aCons (cVar 2) aNil)) aNil)))) (sSeq (sPar [4, 5] (kCons false (cBin oAdd (cVar 1) (cBin oMul (cLst (dCons (cInt 0) dNil)) (cBin oSub (cVar 3) (cBlt bLen (aCons (cVar 1) aNil))))) (kCons false (cBin oAdd (cVar 2) (cBin oMul (cLst (dCons (cInt 0) dNil)) (cBin oSub (cVar 3) (cBlt bLen (aCons (cVar 2) aNil))))) kNil))) (sSeq (sRet (cCall s_without_end e_without_end (dCons (cLc (gTp [(gNm 6), (gNm 7)]) (iZip2 (cVar 4) (cVar 5)) none z1_poly_less [("first", 6), ("second", 7)]) dNil) wNil [.a 0] b_without_end_1)) sEnd)))
def e_poly_less : FEv := defEv 3 8 t_poly_less.ev
theorem k_poly_less : t_poly_less.chk 1 ⟨s_poly_less.N, s_poly_less.scope.names, s_poly_less.scope.names⟩ s_poly_less.body = true := by kernel_rfl
theorem b_is_prime_1 : BindOk s_is_prime 1 [] [.a 0] := ⟨rfl, rfl, fun _ kV doc pm an cdv ct us ws h1 h2 => match us, ws, h1, h2 with | [_], [], _, _ => by kernel_rfl, fun h => absurd rfl h⟩
theorem b_poly_less_3 : BindOk s_poly_less 3 [] [.a 0, .a 1, .a 2] := ⟨rfl, rfl, fun _ kV doc pm an cdv ct us ws h1 h2 => match us, ws, h1, h2 with | [_, _, _], [], _, _ => by kernel_rfl, fun h => absurd rfl h⟩
theorem b_are_apart_3 : BindOk s_are_apart 3 [] [.a 0, .a 1, .a 2] := ⟨rfl, rfl, fun _ kV doc pm an cdv ct us ws h1 h2 => match us, ws, h1, h2 with | [_, _, _], [], _, _ => by kernel_rfl, fun h => absurd rfl h⟩
theorem b_letter_turns_2 : BindOk s_letter_turns 2 [] [.a 0, .a 1] := ⟨rfl, rfl, fun _ kV doc pm an cdv ct us ws h1 h2 => match us, ws, h1, h2 with | [_, _], [], _, _ => by kernel_rfl, fun h => absurd rfl h⟩
def y1_is_single : CT := (tAnd [(tCmp oEq (cBin oMod (cVar 2) (cVar 5)) (cInt 0)), (tVal (cCall s_is_prime e_is_prime (dCons (cVar 5) dNil) wNil [.a 0] b_is_prime_1))])
def z1_is_single : CE := (cVar 5)
def z2_is_single : CE := (cCall s_are_apart e_are_apart (dCons (cVar 0) (dCons (cBlt bList (aCons (cVar 1) aNil)) (dCons (cCall s_poly_less e_poly_less (dCons (cVar 0) (dCons (cIx (cVar 3) (cBin oDiv (cVar 2) (cVar 5))) (dCons (cIx (cVar 3) (cInt 0)) dNil))) wNil [.a 0, .a 1, .a 2] b_poly_less_3) dNil))) wNil [.a 0, .a 1, .a 2] b_are_apart_3)
def t_is_single : CS := (sSeq (sAsgG (gTp [(gNm 2), (gNm 3)]) (cTup (dCons (cBin oSub (cBlt bLen (aCons (cVar 1) aNil)) (cInt 1)) (dCons (cCall s_letter_turns e_letter_turns (dCons (cVar 0) (dCons (cVar 1) dNil)) wNil [.a 0, .a 1] b_letter_turns_2) dNil)))) (sSeq (sIf (tCmp oNe (cIx (cVar 3) (cVar 2)) (cIx (cVar 3) (cInt 0))) (sSeq (sRet (cBl false)) sEnd) sEnd) (sSeq (sAsgLc 4 false (gNm 5) (iRange2 (cInt 2) (cBin oAdd (cVar 2) (cInt 1))) (some y1_is_single) z1_is_single [("less", 5)]) (sSeq (sRet (cBlt bAll (aCons (cLc (gNm 5) (iLst (cVar 4)) none z2_is_single [("less", 5)]) aNil))) sEnd))))
def e_is_single : FEv := defEv 2 6 t_is_single.ev
theorem k_is_single : t_is_single.chk 4 ⟨s_is_single.N, s_is_single.scope.names, s_is_single.scope.names⟩ s_is_single.body = true := by kernel_rfl
def t_is_list : CS := (sSeq (sRet (cIsi2 [0] (.b "list") (.b "tuple") (cVar 0))) sEnd)
def e_is_list : FEv := defEv 1 1 t_is_list.ev
theorem k_is_list : t_is_list.chk 0 ⟨s_is_list.N, s_is_list.scope.names, s_is_list.scope.names⟩ s_is_list.body = true := by kernel_rfl
theorem b_is_list_1 : BindOk s_is_list 1 [] [.a 0] := ⟨rfl, rfl, fun _ kV doc pm an cdv ct us ws h1 h2 => match us, ws, h1, h2 with | [_], [], _, _ => by kernel_rfl, fun h => absurd rfl h⟩
def z1_is_figures : CE := (cAnd [(cCall s_is_count e_is_count (dCons (cVar 3) dNil) wNil [.a 0] b_is_count_1), (cCmp oLt (cVar 3) (cVar 0))])
def t_is_figures : CS := (sSeq (sRet (cAnd [(cCall s_is_list e_is_list (dCons (cVar 1) dNil) wNil [.a 0] b_is_list_1), (cCmp oEq (cBlt bLen (aCons (cVar 1) aNil)) (cVar 2)), (cBlt bAll (aCons (cLc (gNm 3) (iSeq (cVar 1)) none z1_is_figures [("one", 3)]) aNil))])) sEnd)
def e_is_figures : FEv := defEv 3 4 t_is_figures.ev
theorem k_is_figures : t_is_figures.chk 2 ⟨s_is_figures.N, s_is_figures.scope.names, s_is_figures.scope.names⟩ s_is_figures.body = true := by kernel_rfl
theorem b_is_figures_3 : BindOk s_is_figures 3 [] [.a 0, .a 1, .a 2] := ⟨rfl, rfl, fun _ kV doc pm an cdv ct us ws h1 h2 => match us, ws, h1, h2 with | [_, _, _], [], _, _ => by kernel_rfl, fun h => absurd rfl h⟩
theorem b_is_single_2 : BindOk s_is_single 2 [] [.a 0, .a 1] := ⟨rfl, rfl, fun _ kV doc pm an cdv ct us ws h1 h2 => match us, ws, h1, h2 with | [_, _], [], _, _ => by kernel_rfl, fun h => absurd rfl h⟩
def t_is_right : CS := (sSeq (sIf (tOr [(tNotT (tVal (cCall s_is_list e_is_list (dCons (cVar 1) dNil) wNil [.a 0] b_is_list_1))), (tNotT (tChn oLe oLe (cInt 3) (cBlt bLen (aCons (cVar 1) aNil)) (cBin oAdd (cGInt "MOST_TURNS" 12) (cInt 1)))), (tNotT (tVal (cCall s_is_figures e_is_figures (dCons (cVar 0) (dCons (cVar 1) (dCons (cBlt bLen (aCons (cVar 1) aNil)) dNil))) wNil [.a 0, .a 1, .a 2] b_is_figures_3)))]) (sSeq (sRet (cBl false)) sEnd) sEnd) (sSeq (sRet (cAnd [(cCmp oEq (cIx (cVar 1) (cNeg (cInt 1))) (cInt 1)), (cCall s_is_single e_is_single (dCons (cVar 0) (dCons (cBlt bList (aCons (cVar 1) aNil)) dNil)) wNil [.a 0, .a 1] b_is_single_2)])) sEnd))
def e_is_right : FEv := defEv 2 2 t_is_right.ev
theorem k_is_right : t_is_right.chk 5 ⟨s_is_right.N, s_is_right.scope.names, s_is_right.scope.names⟩ s_is_right.body = true := by kernel_rfl
theorem b_want_prime_1 : BindOk s_want_prime 1 [] [.a 0] := ⟨rfl, rfl, fun _ kV doc pm an cdv ct us ws h1 h2 => match us, ws, h1, h2 with | [_], [], _, _ => by kernel_rfl, fun h => absurd rfl h⟩
theorem b_is_right_2 : BindOk s_is_right 2 [] [.a 0, .a 1] := ⟨rfl, rfl, fun _ kV doc pm an cdv ct us ws h1 h2 => match us, ws, h1, h2 with | [_, _], [], _, _ => by kernel_rfl, fun h => absurd rfl h⟩
theorem b_sized_2 : BindOk s_sized 2 [] [.a 0, .a 1] := ⟨rfl, rfl, fun _ kV doc pm an cdv ct us ws h1 h2 => match us, ws, h1, h2 with | [_, _], [], _, _ => by kernel_rfl, fun h => absurd rfl h⟩
theorem b_want_at_most_3 : BindOk s_want_at_most 3 [] [.a 0, .a 1, .a 2] := ⟨rfl, rfl, fun _ kV doc pm an cdv ct us ws h1 h2 => match us, ws, h1, h2 with | [_, _, _], [], _, _ => by kernel_rfl, fun h => absurd rfl h⟩
theorem b_all_powers_3 : BindOk s_all_powers 3 [] [.a 0, .a 1, .a 2] := ⟨rfl, rfl, fun _ kV doc pm an cdv ct us ws h1 h2 => match us, ws, h1, h2 with | [_, _, _], [], _, _ => by kernel_rfl, fun h => absurd rfl h⟩
theorem b_logs_by_2 : BindOk s_logs_by 2 [] [.a 0, .a 1] := ⟨rfl, rfl, fun _ kV doc pm an cdv ct us ws h1 h2 => match us, ws, h1, h2 with | [_, _], [], _, _ => by kernel_rfl, fun h => absurd rfl h⟩
def t_Field___init__ : CS := (sSeq (sExpr (cCall s_want_prime e_want_prime (dCons (cVar 1) dNil) wNil [.a 0] b_want_prime_1)) (sSeq (sIf (tNotT (tVal (cCall s_is_right e_is_right (dCons (cVar 1) (dCons (cVar 2) dNil)) wNil [.a 0, .a 1] b_is_right_2))) (sSeq sNo sEnd) sEnd) (sSeq (sExpr (cCall s_want_at_most e_want_at_most (dCons (cStr "elements") (dCons (cGInt "MOST_SIZE" 128) (dCons (cCall s_sized e_sized (dCons (cVar 1) (dCons (cBin oSub (cBlt bLen (aCons (cVar 2) aNil)) (cInt 1)) dNil)) wNil [.a 0, .a 1] b_sized_2) dNil))) wNil [.a 0, .a 1, .a 2] b_want_at_most_3)) (sSeq (sFldO 0 0 "own_prime" (cVar 1)) (sSeq (sFldO 0 0 "own_turns" (cBin oSub (cBlt bLen (aCons (cVar 2) aNil)) (cInt 1))) (sSeq (sFldO 0 0 "own_size" (cCall s_sized e_sized (dCons (cVar 1) (dCons (cBin oSub (cBlt bLen (aCons (cVar 2) aNil)) (cInt 1)) dNil)) wNil [.a 0, .a 1] b_sized_2)) (sSeq (sFldO 0 0 "own_modulus" (cBlt bList (aCons (cVar 2) aNil))) (sSeq (sFldO 0 0 "own_powers" (cCall s_all_powers e_all_powers (dCons (cVar 1) (dCons (cBlt bList (aCons (cVar 2) aNil)) (dCons (cCall s_sized e_sized (dCons (cVar 1) (dCons (cBin oSub (cBlt bLen (aCons (cVar 2) aNil)) (cInt 1)) dNil)) wNil [.a 0, .a 1] b_sized_2) dNil))) wNil [.a 0, .a 1, .a 2] b_all_powers_3)) (sSeq (sFldO 0 0 "own_logs" (cCall s_logs_by e_logs_by (dCons (cFldO 0 0 "own_powers") (dCons (cFldO 0 0 "own_size") dNil)) wNil [.a 0, .a 1] b_logs_by_2)) sEnd)))))))))
def e_Field___init__ : IEv := initEv 0 3 3 t_Field___init__.ev
theorem k_Field___init__ : t_Field___init__.chk 6 ⟨s_Field___init__.N, s_Field___init__.scope.names, s_Field___init__.scope.names⟩ s_Field___init__.body = true := by kernel_rfl
def t_Field_modulus : CS := (sSeq (sRet (cBlt bList (aCons (cFld [0] "own_modulus" (cVar 0)) aNil))) sEnd)
def e_Field_modulus : FEv := defEv 1 1 t_Field_modulus.ev
theorem k_Field_modulus : t_Field_modulus.chk 0 ⟨s_Field_modulus.N, s_Field_modulus.scope.names, s_Field_modulus.scope.names⟩ s_Field_modulus.body = true := by kernel_rfl
def t_is_modulus : CS := (sSeq (sExpr (cCall s_want_prime e_want_prime (dCons (cVar 0) dNil) wNil [.a 0] b_want_prime_1)) (sSeq (sRet (cCall s_is_right e_is_right (dCons (cVar 0) (dCons (cVar 1) dNil)) wNil [.a 0, .a 1] b_is_right_2)) sEnd))
def e_is_modulus : FEv := defEv 2 2 t_is_modulus.ev
theorem k_is_modulus : t_is_modulus.chk 6 ⟨s_is_modulus.N, s_is_modulus.scope.names, s_is_modulus.scope.names⟩ s_is_modulus.body = true := by kernel_rfl
def t_Field_prime : CS := (sSeq (sRet (cFld [0] "own_prime" (cVar 0))) sEnd)
def e_Field_prime : FEv := defEv 1 1 t_Field_prime.ev
theorem k_Field_prime : t_Field_prime.chk 0 ⟨s_Field_prime.N, s_Field_prime.scope.names, s_Field_prime.scope.names⟩ s_Field_prime.body = true := by kernel_rfl
def t_Field_turns : CS := (sSeq (sRet (cFld [0] "own_turns" (cVar 0))) sEnd)
def e_Field_turns : FEv := defEv 1 1 t_Field_turns.ev
theorem k_Field_turns : t_Field_turns.chk 0 ⟨s_Field_turns.N, s_Field_turns.scope.names, s_Field_turns.scope.names⟩ s_Field_turns.body = true := by kernel_rfl
def t_Field_size : CS := (sSeq (sRet (cFld [0] "own_size" (cVar 0))) sEnd)
def e_Field_size : FEv := defEv 1 1 t_Field_size.ev
theorem k_Field_size : t_Field_size.chk 0 ⟨s_Field_size.N, s_Field_size.scope.names, s_Field_size.scope.names⟩ s_Field_size.body = true := by kernel_rfl
def t_is_in : CS := (sSeq (sRet (cAnd [(cCall s_is_count e_is_count (dCons (cVar 1) dNil) wNil [.a 0] b_is_count_1), (cCmp oLt (cVar 1) (cFld [0] "own_size" (cVar 0)))])) sEnd)
def e_is_in : FEv := defEv 2 2 t_is_in.ev
theorem k_is_in : t_is_in.chk 2 ⟨s_is_in.N, s_is_in.scope.names, s_is_in.scope.names⟩ s_is_in.body = true := by kernel_rfl
def t_want_field : CS := (sSeq (sIf (tNotT (tVal (cIsi [0] (.o 0) (cVar 0)))) (sSeq sNo sEnd) sEnd) (sSeq (sRet (cVar 0)) sEnd))
def e_want_field : FEv := defEv 1 1 t_want_field.ev
theorem k_want_field : t_want_field.chk 0 ⟨s_want_field.N, s_want_field.scope.names, s_want_field.scope.names⟩ s_want_field.body = true := by kernel_rfl
theorem b_want_field_1 : BindOk s_want_field 1 [] [.a 0] := ⟨rfl, rfl, fun _ kV doc pm an cdv ct us ws h1 h2 => match us, ws, h1, h2 with | [_], [], _, _ => by kernel_rfl, fun h => absurd rfl h⟩
theorem b_is_in_2 : BindOk s_is_in 2 [] [.a 0, .a 1] := ⟨rfl, rfl, fun _ kV doc pm an cdv ct us ws h1 h2 => match us, ws, h1, h2 with | [_, _], [], _, _ => by kernel_rfl, fun h => absurd rfl h⟩
def t_is_element : CS := (sSeq (sRet (cCall s_is_in e_is_in (dCons (cCall s_want_field e_want_field (dCons (cVar 0) dNil) wNil [.a 0] b_want_field_1) (dCons (cVar 1) dNil)) wNil [.a 0, .a 1] b_is_in_2)) sEnd)
def e_is_element : FEv := defEv 2 2 t_is_element.ev
theorem k_is_element : t_is_element.chk 3 ⟨s_is_element.N, s_is_element.scope.names, s_is_element.scope.names⟩ s_is_element.body = true := by kernel_rfl
def t_Field___repr__ : CS := (sSeq (sRet (cJoin [(cStr "Field("), (cFmt (cFld [0] "own_prime" (cVar 0))), (cStr ", "), (cFmt (cBlt bRepr (aCons (cFld [0] "own_modulus" (cVar 0)) aNil))), (cStr ")")])) sEnd)
def e_Field___repr__ : FEv := defEv 1 1 t_Field___repr__.ev
theorem k_Field___repr__ : t_Field___repr__.chk 0 ⟨s_Field___repr__.N, s_Field___repr__.scope.names, s_Field___repr__.scope.names⟩ s_Field___repr__.body = true := by kernel_rfl
def t_Field___eq__ : CS := (sSeq (sIf (tNotT (tVal (cIsi [0] (.o 0) (cVar 1)))) (sSeq (sRet (cBl false)) sEnd) sEnd) (sSeq (sRet (cAnd [(cCmp oEq (cFld [0] "own_prime" (cVar 0)) (cFld [0] "own_prime" (cVar 1))), (cCmp oEq (cFld [0] "own_modulus" (cVar 0)) (cFld [0] "own_modulus" (cVar 1)))])) sEnd))
def e_Field___eq__ : FEv := defEv 2 2 t_Field___eq__.ev
theorem k_Field___eq__ : t_Field___eq__.chk 0 ⟨s_Field___eq__.N, s_Field___eq__.scope.names, s_Field___eq__.scope.names⟩ s_Field___eq__.body = true := by kernel_rfl
theorem b_is_element_2 : BindOk s_is_element 2 [] [.a 0, .a 1] := ⟨rfl, rfl, fun _ kV doc pm an cdv ct us ws h1 h2 => match us, ws, h1, h2 with | [_, _], [], _, _ => by kernel_rfl, fun h => absurd rfl h⟩
theorem b_is_element_0_value_field : BindOk s_is_element 0 ["value", "field"] [.a 1, .a 0] := ⟨rfl, rfl, fun _ kV doc pm an cdv ct us ws h1 h2 => match us, ws, h1, h2 with | [], [_, _], _, _ => by kernel_rfl, fun h => absurd rfl h⟩
theorem b__law_field_1 : BindOk s__law_field 1 [] [.a 0] := ⟨rfl, rfl, fun _ kV doc pm an cdv ct us ws h1 h2 => match us, ws, h1, h2 with | [_], [], _, _ => by kernel_rfl, fun h => absurd rfl h⟩
theorem b_Field___init___3 : BindOk s_Field___init__ 3 [] [.a 0, .a 1, .a 2] := ⟨rfl, rfl, fun _ kV doc pm an cdv ct us ws h1 h2 => match us, ws, h1, h2 with | [_, _, _], [], _, _ => by kernel_rfl, fun h => absurd rfl h⟩
theorem b__law_size_2 : BindOk s__law_size 2 [] [.a 0, .a 1] := ⟨rfl, rfl, fun _ kV doc pm an cdv ct us ws h1 h2 => match us, ws, h1, h2 with | [_, _], [], _, _ => by kernel_rfl, fun h => absurd rfl h⟩
theorem b_Field_prime_1 : BindOk s_Field_prime 1 [] [.a 0] := ⟨rfl, rfl, fun _ kV doc pm an cdv ct us ws h1 h2 => match us, ws, h1, h2 with | [_], [], _, _ => by kernel_rfl, fun h => absurd rfl h⟩
theorem b_Field_turns_1 : BindOk s_Field_turns 1 [] [.a 0] := ⟨rfl, rfl, fun _ kV doc pm an cdv ct us ws h1 h2 => match us, ws, h1, h2 with | [_], [], _, _ => by kernel_rfl, fun h => absurd rfl h⟩
theorem b_Field_size_1 : BindOk s_Field_size 1 [] [.a 0] := ⟨rfl, rfl, fun _ kV doc pm an cdv ct us ws h1 h2 => match us, ws, h1, h2 with | [_], [], _, _ => by kernel_rfl, fun h => absurd rfl h⟩
theorem b_Field___repr___1 : BindOk s_Field___repr__ 1 [] [.a 0] := ⟨rfl, rfl, fun _ kV doc pm an cdv ct us ws h1 h2 => match us, ws, h1, h2 with | [_], [], _, _ => by kernel_rfl, fun h => absurd rfl h⟩
theorem b_is_modulus_2 : BindOk s_is_modulus 2 [] [.a 0, .a 1] := ⟨rfl, rfl, fun _ kV doc pm an cdv ct us ws h1 h2 => match us, ws, h1, h2 with | [_, _], [], _, _ => by kernel_rfl, fun h => absurd rfl h⟩
theorem b_Field_modulus_1 : BindOk s_Field_modulus 1 [] [.a 0] := ⟨rfl, rfl, fun _ kV doc pm an cdv ct us ws h1 h2 => match us, ws, h1, h2 with | [_], [], _, _ => by kernel_rfl, fun h => absurd rfl h⟩
theorem b_Field___init___1_modulus_prime : BindOk s_Field___init__ 1 ["modulus", "prime"] [.a 0, .a 2, .a 1] := ⟨rfl, rfl, fun _ kV doc pm an cdv ct us ws h1 h2 => match us, ws, h1, h2 with | [_], [_, _], _, _ => by kernel_rfl, fun h => absurd rfl h⟩
theorem b_Field___eq___2 : BindOk s_Field___eq__ 2 [] [.a 0, .a 1] := ⟨rfl, rfl, fun _ kV doc pm an cdv ct us ws h1 h2 => match us, ws, h1, h2 with | [_, _], [], _, _ => by kernel_rfl, fun h => absurd rfl h⟩
def w1__law_right : CS := (sSeq (sAsg 13 false (cAnd [(cIsi [0] (.b "int") (cVar 12)), (cNot (cIsi [0] (.b "bool") (cVar 12))), (cChain oLe oLt (cInt 0) (cVar 12) (cVar 6))])) (sSeq (sIf (tCmp oNe (cBlt bRepr (aCons (cLst (dCons (cCall s_is_element e_is_element (dCons (cVar 5) (dCons (cVar 12) dNil)) wNil [.a 0, .a 1] b_is_element_2) (dCons (cCallK s_is_element e_is_element (wCons "value" (cVar 12) (wCons "field" (cVar 5) wNil)) [.a 1, .a 0] b_is_element_0_value_field) dNil))) aNil)) (cBlt bRepr (aCons (cBin oMul (cLst (dCons (cVar 13) dNil)) (cInt 2)) aNil))) (sSeq (sRet (cBl false)) sEnd) sEnd) sEnd))
def t__law_right : CS := (sSeq (sAsgG (gTp [(gNm 1), (gNm 2)]) (cCall s__law_field e__law_field (dCons (cVar 0) dNil) wNil [.a 0] b__law_field_1)) (sSeq (sAsg 3 false (cIte (tCmp oEq (cCall s__law_draw e__law_draw (dCons (cVar 0) (dCons (cInt 2) dNil)) wNil [.a 0, .a 1] b__law_draw_2) (cInt 0)) (cBlt bTuple (aCons (cVar 2) aNil)) (cBlt bList (aCons (cVar 2) aNil)))) (sSeq (sPar [4, 5] (kCons false (cBlt bRepr (aCons (cVar 3) aNil)) (kCons false (cMake 0 s_Field___init__ e_Field___init__ (dCons (cVar 1) (dCons (cVar 3) dNil)) wNil [.a 0, .a 1] b_Field___init___3) kNil))) (sSeq (sAsg 6 false (cCall s__law_size e__law_size (dCons (cVar 1) (dCons (cVar 2) dNil)) wNil [.a 0, .a 1] b__law_size_2)) (sSeq (sIf (tCmp oNe (cBlt bRepr (aCons (cLst (dCons (cProp 0 "prime" s_Field_prime e_Field_prime (cVar 5) b_Field_prime_1) (dCons (cProp 0 "turns" s_Field_turns e_Field_turns (cVar 5) b_Field_turns_1) (dCons (cProp 0 "size" s_Field_size e_Field_size (cVar 5) b_Field_size_1) dNil)))) aNil)) (cBlt bRepr (aCons (cLst (dCons (cVar 1) (dCons (cBin oSub (cBlt bLen (aCons (cVar 2) aNil)) (cInt 1)) (dCons (cVar 6) dNil)))) aNil))) (sSeq (sRet (cBl false)) sEnd) sEnd) (sSeq (sIf (tOr [(tCmp oNe (cObjRepr 0 s_Field___repr__ e_Field___repr__ (cVar 5) b_Field___repr___1) (cBin oAdd (cBin oAdd (cBin oAdd (cBin oAdd (cStr "Field(") (cBlt bRepr (aCons (cVar 1) aNil))) (cStr ", ")) (cBlt bRepr (aCons (cVar 2) aNil))) (cStr ")"))), (tCmp oIsNot (cCall s_is_modulus e_is_modulus (dCons (cVar 1) (dCons (cVar 3) dNil)) wNil [.a 0, .a 1] b_is_modulus_2) (cBl true))]) (sSeq (sRet (cBl false)) sEnd) sEnd) (sSeq (sIf (tCmp oNe (cMeth0 0 "modulus" s_Field_modulus e_Field_modulus (cVar 5) b_Field_modulus_1) (cVar 2)) (sSeq (sRet (cBl false)) sEnd) sEnd) (sSeq (sAppE (cMeth0 0 "modulus" s_Field_modulus e_Field_modulus (cVar 5) b_Field_modulus_1) (cInt 0)) (sSeq (sAsg 7 false (cMakeK 0 s_Field___init__ e_Field___init__ (wCons "modulus" (cVar 2) (wCons "prime" (cVar 1) wNil)) [.a 1, .a 0] b_Field___init___1_modulus_prime)) (sSeq (sIf (tOr [(tCmp oNe (cMeth0 0 "modulus" s_Field_modulus e_Field_modulus (cVar 5) b_Field_modulus_1) (cVar 2)), (tNotT (tObjEq false 0 s_Field___eq__ e_Field___eq__ (cVar 5) (cVar 7) b_Field___eq___2)), (tObjEq true 0 s_Field___eq__ e_Field___eq__ (cVar 5) (cVar 7) b_Field___eq___2), (tCmp oNe (cBlt bRepr (aCons (cVar 3) aNil)) (cVar 4))]) (sSeq (sRet (cBl false)) sEnd) sEnd) (sSeq (sAsgG (gTp [(gNm 8), (gNm 9)]) (cCall s__law_field e__law_field (dCons (cVar 0) dNil) wNil [.a 0] b__law_field_1)) (sSeq (sAsg 10 false (cMake 0 s_Field___init__ e_Field___init__ (dCons (cVar 8) (dCons (cVar 9) dNil)) wNil [.a 0, .a 1] b_Field___init___3)) (sSeq (sIf (tOr [(tCmp oNe (cObjEq false 0 s_Field___eq__ e_Field___eq__ (cVar 10) (cVar 5) b_Field___eq___2) (cCmp oEq (cTup (dCons (cVar 8) (dCons (cVar 9) dNil))) (cTup (dCons (cVar 1) (dCons (cVar 2) dNil))))), (tCmp oEq (cObjEq true 0 s_Field___eq__ e_Field___eq__ (cVar 10) (cVar 5) b_Field___eq___2) (cObjEq false 0 s_Field___eq__ e_Field___eq__ (cVar 10) (cVar 5) b_Field___eq___2))]) (sSeq (sRet (cBl false)) sEnd) sEnd) (sSeq (sIf (tOr [(tObjEqD false 0 s_Field___eq__ e_Field___eq__ (cVar 5) (cVar 2) b_Field___eq___2), (tObjEqD false 0 s_Field___eq__ e_Field___eq__ (cVar 5) (cObjRepr 0 s_Field___repr__ e_Field___repr__ (cVar 5) b_Field___repr___1) b_Field___eq___2), (tObjEqD false 0 s_Field___eq__ e_Field___eq__ (cVar 5) (cTup (dCons (cVar 1) (dCons (cVar 2) dNil))) b_Field___eq___2)]) (sSeq (sRet (cBl false)) sEnd) sEnd) (sSeq (sAsg 11 false (cLst (dCons (cInt 0) (dCons (cInt 1) (dCons (cBin oSub (cVar 6) (cInt 1)) (dCons (cVar 6) (dCons (cBin oAdd (cVar 6) (cInt 1)) (dCons (cNeg (cInt 1)) (dCons (cBin oPow (cInt 10) (cInt 25)) (dCons (cBl true) (dCons (cBl false) (dCons cNon (dCons (cStr "1") (dCons (cLst (dCons (cInt 1) dNil)) (dCons (cTup dNil) (dCons (cLock cDnew) (dCons (cVar 5) dNil))))))))))))))))) (sSeq (sFor (gNm 12) (iLst (cBin oAdd (cVar 11) (cLst (dCons (cCall s__law_draw e__law_draw (dCons (cVar 0) (dCons (cVar 6) dNil)) wNil [.a 0, .a 1] b__law_draw_2) dNil)))) w1__law_right) (sSeq (sRet (cBl true)) sEnd)))))))))))))))))
def e__law_right : FEv := defEv 1 14 t__law_right.ev
theorem k__law_right : t__law_right.chk 8 ⟨s__law_right.N, s__law_right.scope.names, s__law_right.scope.names⟩ s__law_right.body = true := by kernel_rfl
def t__law_pot : CS := (sSeq (sAsg 2 false (cIte (tCmp oLt (cVar 1) (cBlt bLen (aCons (cVar 0) aNil))) (cBlt bAbs (aCons (cIx (cVar 0) (cVar 1)) aNil)) (cBin oAdd (cBin oAdd (cBin oMul (cInt 107) (cVar 1)) (cInt 53)) (cBin oMod (cBlt bAbs (aCons (cBlt bSum (aCons (cSlice (cVar 0) none (some (cInt 1))) aNil)) aNil)) (cInt 1000003))))) (sSeq (sRet (cLst (dCons (cBlt bMax2 (aCons (cInt 0) (aCons (cBin oSub (cVar 2) (cBin oPow (cInt 10) (cInt 18))) aNil))) (dCons (cBin oAdd (cBin oMod (cBlt bInt (aCons (cBin oAdd (cBin oAdd (cBin oMul (cBin oMod (cBlt bInt (aCons (cVar 2) aNil)) (cInt 2147483549)) (cInt 40471)) (cBin oMul (cInt 7127) (cVar 1))) (cInt 89)) aNil)) (cInt 2147483563)) (cInt 1)) dNil)))) sEnd))
def e__law_pot : FEv := defEv 2 3 t__law_pot.ev
theorem k__law_pot : t__law_pot.chk 0 ⟨s__law_pot.N, s__law_pot.scope.names, s__law_pot.scope.names⟩ s__law_pot.body = true := by kernel_rfl
theorem b__law_pot_2 : BindOk s__law_pot 2 [] [.a 0, .a 1] := ⟨rfl, rfl, fun _ kV doc pm an cdv ct us ws h1 h2 => match us, ws, h1, h2 with | [_, _], [], _, _ => by kernel_rfl, fun h => absurd rfl h⟩
theorem b__law_right_1 : BindOk s__law_right 1 [] [.a 0] := ⟨rfl, rfl, fun _ kV doc pm an cdv ct us ws h1 h2 => match us, ws, h1, h2 with | [_], [], _, _ => by kernel_rfl, fun h => absurd rfl h⟩
def t_law : CS := (sSeq (sRet (cCall s__law_right e__law_right (dCons (cCell (cCall s__law_pot e__law_pot (dCons (cVar 0) (dCons (cInt 0) dNil)) wNil [.a 0, .a 1] b__law_pot_2)) dNil) wNil [.a 0] b__law_right_1)) sEnd)
def e_law : FEv := defEv 1 1 t_law.ev
theorem k_law : t_law.chk 9 ⟨s_law.N, s_law.scope.names, s_law.scope.names⟩ s_law.body = true := by kernel_rfl
end Lw
end
section
set_option Elab.async false
set_option linter.all false
set_option maxRecDepth 100000
set_option maxHeartbeats 0
namespace Lw
open PySem PySem.Spec PyProof.Rows L2 Tp
section
variable {Γ : Gam}
theorem x0 (S : Hdp Γ fa fn gs ex) : (isiB Γ.K [0] (.b "int")) = true := (b2 (b2 (b2 (b2 (b2 (b2 (b2 (b2 (b2 (b2 (b2 (b2 (b2 S.hd.more).1).1).1).1).1).1).1).1).1).1).1).1).1
theorem x1 (S : Hdp Γ fa fn gs ex) : (clsB Γ.K 0) = true := (b2 (b2 (b2 (b2 (b2 (b2 (b2 (b2 (b2 (b2 (b2 (b2 (b2 S.hd.more).1).1).1).1).1).1).1).1).1).1).1).1).2
theorem x2 (S : Hdp Γ fa fn gs ex) : (isiB Γ.K [0] (.b "bool")) = true := (b2 (b2 (b2 (b2 (b2 (b2 (b2 (b2 (b2 (b2 (b2 (b2 S.hd.more).1).1).1).1).1).1).1).1).1).1).1).2
theorem x3 (S : Hdp Γ fa fn gs ex) : (He.tupB Γ.K "PRIMES" (([.int 2, .int 3, .int 5, .int 7] : List D).map dvOf)) = true := (b2 (b2 (b2 (b2 (b2 (b2 (b2 (b2 (b2 (b2 (b2 S.hd.more).1).1).1).1).1).1).1).1).1).1).2
theorem x4 (S : Hdp Γ fa fn gs ex) : (isiB Γ.K [0] (.b "list")) = true := (b2 (b2 (b2 (b2 (b2 (b2 (b2 (b2 (b2 (b2 S.hd.more).1).1).1).1).1).1).1).1).1).2
theorem x5 (S : Hdp Γ fa fn gs ex) : (isiB Γ.K [0] (.b "tuple")) = true := (b2 (b2 (b2 (b2 (b2 (b2 (b2 (b2 (b2 S.hd.more).1).1).1).1).1).1).1).1).2
theorem x6 (S : Hdp Γ fa fn gs ex) : (isiB Γ.K [0] (.o 0)) = true := (b2 (b2 (b2 (b2 (b2 (b2 (b2 (b2 S.hd.more).1).1).1).1).1).1).1).2
theorem x7 (S : Hdp Γ fa fn gs ex) : (reprB Γ.K (cdT 0).1) = true := (b2 (b2 (b2 (b2 (b2 (b2 (b2 S.hd.more).1).1).1).1).1).1).2
theorem x8 (S : Hdp Γ fa fn gs ex) : (eqB Γ.K (cdT 0).1) = true := (b2 (b2 (b2 (b2 (b2 (b2 S.hd.more).1).1).1).1).1).2
theorem x9 (S : Hdp Γ fa fn gs ex) : (subsB Γ.K (cdT 0).1) = true := (b2 (b2 (b2 (b2 (b2 S.hd.more).1).1).1).1).2
theorem x10 (S : Hdp Γ fa fn gs ex) : (propB Γ.K (cdT 0).1 "prime") = true := (b2 (b2 (b2 (b2 S.hd.more).1).1).1).2
theorem x11 (S : Hdp Γ fa fn gs ex) : (propB Γ.K (cdT 0).1 "turns") = true := (b2 (b2 (b2 S.hd.more).1).1).2
theorem x12 (S : Hdp Γ fa fn gs ex) : (propB Γ.K (cdT 0).1 "size") = true := (b2 (b2 S.hd.more).1).2
theorem cf0 (S : Hdp Γ fa fn gs ex) : ClsFull Γ 0 := S.hd.cls 7 8 0 (by kernel_rfl) (by kernel_rfl) (x1 S)
abbrev fd__law_draw : He.DefD := ⟨("_law_draw", none), "_law_draw", "_law_draw", defArgs (top 42), defBody (top 42), defScope (top 42), [], []⟩
theorem n__law_draw (S : Hdp Γ fa fn gs ex) : t__law_draw.need Γ := (And.intro (And.intro (And.intro (And.intro trivial trivial) trivial) (And.intro (And.intro (And.intro (And.intro trivial (And.intro trivial trivial)) (And.intro trivial (And.intro (S.hd.free 0 "divmod" (by kernel_rfl)) (And.intro (And.intro trivial trivial) (And.intro trivial trivial))))) (And.intro trivial trivial)) trivial)) (And.intro (And.intro trivial (And.intro (And.intro trivial (And.intro (S.hd.free 1 "int" (by kernel_rfl)) (And.intro (And.intro (And.intro (And.intro trivial trivial) trivial) trivial) trivial))) trivial)) (And.intro (And.intro (And.intro trivial (And.intro (S.hd.free 1 "int" (by kernel_rfl)) (And.intro (And.intro (And.intro (And.intro trivial (And.intro (S.hd.free 1 "int" (by kernel_rfl)) (And.intro (And.intro (And.intro trivial trivial) (And.intro trivial trivial)) trivial))) trivial) trivial) trivial))) trivial) trivial)))
theorem f__law_draw (S : Hdp Γ fa fn gs ex) : FnIs Γ s__law_draw e__law_draw (He.fAd Γ.K ("_law_draw", none)) := FnIs.of rfl (by kernel_rfl) (S.hd.fnAt 0 s__law_draw (d := fd__law_draw) (by kernel_rfl) rfl rfl rfl rfl rfl rfl rfl) t__law_draw (n__law_draw S) k__law_draw
abbrev fd__law_pick : He.DefD := ⟨("_law_pick", none), "_law_pick", "_law_pick", defArgs (top 43), defBody (top 43), defScope (top 43), [], []⟩
theorem n__law_pick (S : Hdp Γ fa fn gs ex) : t__law_pick.need Γ := (And.intro (And.intro trivial (And.intro (Exists.intro _ (And.intro (S.hd.glo 2 "_law_draw" (by kernel_rfl)) (f__law_draw S))) (And.intro (And.intro trivial (And.intro (And.intro trivial (And.intro (S.hd.free 3 "len" (by kernel_rfl)) (And.intro trivial trivial))) trivial)) trivial))) trivial)
theorem f__law_pick (S : Hdp Γ fa fn gs ex) : FnIs Γ s__law_pick e__law_pick (He.fAd Γ.K ("_law_pick", none)) := FnIs.of rfl (by kernel_rfl) (S.hd.fnAt 1 s__law_pick (d := fd__law_pick) (by kernel_rfl) rfl rfl rfl rfl rfl rfl rfl) t__law_pick (n__law_pick S) k__law_pick
abbrev fd__law_field : He.DefD := ⟨("_law_field", none), "_law_field", "_law_field", defArgs (top 44), defBody (top 44), defScope (top 44), [], []⟩
theorem n__law_field (S : Hdp Γ fa fn gs ex) : t__law_field.need Γ := (And.intro (And.intro (And.intro trivial (And.intro (And.intro trivial (And.intro trivial (And.intro trivial trivial))) trivial)) (And.intro (And.intro trivial (And.intro (And.intro trivial (And.intro trivial (And.intro trivial (And.intro trivial trivial)))) trivial)) (And.intro (And.intro trivial (And.intro (And.intro trivial (And.intro trivial (And.intro trivial (And.intro trivial trivial)))) trivial)) (And.intro (And.intro trivial (And.intro (And.intro trivial (And.intro trivial (And.intro trivial (And.intro trivial (And.intro trivial trivial))))) trivial)) trivial)))) (And.intro (And.intro trivial (And.intro (And.intro trivial (And.intro (And.intro trivial (And.intro trivial (And.intro trivial trivial))) trivial)) (And.intro (And.intro trivial (And.intro (And.intro trivial (And.intro trivial (And.intro trivial trivial))) trivial)) (And.intro (And.intro trivial (And.intro (And.intro trivial (And.intro trivial (And.intro trivial trivial))) trivial)) trivial)))) (And.intro (And.intro (And.intro (And.intro (Exists.intro _ (And.intro (S.hd.glo 2 "_law_draw" (by kernel_rfl)) (f__law_draw S))) (And.intro (And.intro trivial (And.intro trivial trivial)) trivial)) trivial) (And.intro (And.intro (And.intro (And.intro trivial (And.intro (And.intro trivial (And.intro trivial (And.intro trivial (And.intro trivial (And.intro trivial (And.intro trivial trivial)))))) trivial)) (And.intro (And.intro trivial (And.intro (And.intro trivial (And.intro trivial (And.intro trivial (And.intro trivial (And.intro trivial (And.intro trivial (And.intro trivial trivial))))))) trivial)) (And.intro (And.intro trivial (And.intro (And.intro trivial (And.intro trivial (And.intro trivial (And.intro trivial trivial)))) trivial)) (And.intro (And.intro trivial (And.intro (And.intro trivial (And.intro trivial (And.intro trivial trivial))) trivial)) trivial)))) (And.intro (And.intro trivial (And.intro (And.intro trivial (And.intro (And.intro trivial (And.intro trivial (And.intro trivial (And.intro trivial trivial)))) trivial)) (And.intro (And.intro trivial (And.intro (And.intro trivial (And.intro trivial (And.intro trivial (And.intro trivial (And.intro trivial (And.intro trivial (And.intro trivial (And.intro trivial trivial)))))))) trivial)) (And.intro (And.intro trivial (And.intro (And.intro trivial (And.intro trivial (And.intro trivial (And.intro trivial (And.intro trivial trivial))))) trivial)) trivial)))) trivial)) trivial)) (And.intro (And.intro (Exists.intro _ (And.intro (S.hd.glo 4 "_law_pick" (by kernel_rfl)) (f__law_pick S))) (And.intro (And.intro trivial (And.intro trivial trivial)) trivial)) trivial))))
theorem f__law_field (S : Hdp Γ fa fn gs ex) : FnIs Γ s__law_field e__law_field (He.fAd Γ.K ("_law_field", none)) := FnIs.of rfl (by kernel_rfl) (S.hd.fnAt 2 s__law_field (d := fd__law_field) (by kernel_rfl) rfl rfl rfl rfl rfl rfl rfl) t__law_field (n__law_field S) k__law_field
abbrev fd__law_size : He.DefD := ⟨("_law_size", none), "_law_size", "_law_size", defArgs (top 45), defBody (top 45), defScope (top 45), [], []⟩
theorem n__law_size (S : Hdp Γ fa fn gs ex) : t__law_size.need Γ := (And.intro trivial (And.intro (And.intro trivial (And.intro (And.intro (S.hd.free 5 "range" (by kernel_rfl)) (And.intro (And.intro trivial (And.intro (S.hd.free 3 "len" (by kernel_rfl)) (And.intro trivial trivial))) trivial)) (And.intro (And.intro trivial trivial) trivial))) (And.intro trivial trivial)))
theorem f__law_size (S : Hdp Γ fa fn gs ex) : FnIs Γ s__law_size e__law_size (He.fAd Γ.K ("_law_size", none)) := FnIs.of rfl (by kernel_rfl) (S.hd.fnAt 3 s__law_size (d := fd__law_size) (by kernel_rfl) rfl rfl rfl rfl rfl rfl rfl) t__law_size (n__law_size S) k__law_size
abbrev fd_is_integer : He.DefD := ⟨("is_integer", none), "is_integer", "is_integer", defArgs (top 8), defBody (top 8), defScope (top 8), [], []⟩
theorem n_is_integer (S : Hdp Γ fa fn gs ex) : t_is_integer.need Γ := (And.intro (And.intro (And.intro (S.hd.free 6 "isinstance" (by kernel_rfl)) (And.intro (fun c h => by rw [List.mem_singleton.mp h]; exact (cf0 S)) (And.intro (S.hd.free 1 "int" (by kernel_rfl)) (And.intro (isi_of (x0 S)) trivial)))) (And.intro (And.intro (S.hd.free 6 "isinstance" (by kernel_rfl)) (And.intro (fun c h => by rw [List.mem_singleton.mp h]; exact (cf0 S)) (And.intro (S.hd.free 9 "bool" (by kernel_rfl)) (And.intro (isi_of (x2 S)) trivial)))) trivial)) trivial)
theorem f_is_integer (S : Hdp Γ fa fn gs ex) : FnIs Γ s_is_integer e_is_integer (He.fAd Γ.K ("is_integer", none)) := FnIs.of rfl (by kernel_rfl) (S.hd.fnAt 4 s_is_integer (d := fd_is_integer) (by kernel_rfl) rfl rfl rfl rfl rfl rfl rfl) t_is_integer (n_is_integer S) k_is_integer
abbrev fd_is_count : He.DefD := ⟨("is_count", none), "is_count", "is_count", defArgs (top 9), defBody (top 9), defScope (top 9), [], []⟩
theorem n_is_count (S : Hdp Γ fa fn gs ex) : t_is_count.need Γ := (And.intro (And.intro (And.intro (Exists.intro _ (And.intro (S.hd.glo 10 "is_integer" (by kernel_rfl)) (f_is_integer S))) (And.intro (And.intro trivial trivial) trivial)) (And.intro (And.intro trivial trivial) trivial)) trivial)
theorem f_is_count (S : Hdp Γ fa fn gs ex) : FnIs Γ s_is_count e_is_count (He.fAd Γ.K ("is_count", none)) := FnIs.of rfl (by kernel_rfl) (S.hd.fnAt 5 s_is_count (d := fd_is_count) (by kernel_rfl) rfl rfl rfl rfl rfl rfl rfl) t_is_count (n_is_count S) k_is_count
abbrev fd_want_prime : He.DefD := ⟨("want_prime", none), "want_prime", "want_prime", defArgs (top 25), defBody (top 25), defScope (top 25), [], []⟩
theorem n_want_prime (S : Hdp Γ fa fn gs ex) : t_want_prime.need Γ := (And.intro (And.intro (And.intro (And.intro (Exists.intro _ (And.intro (S.hd.glo 11 "is_count" (by kernel_rfl)) (f_is_count S))) (And.intro (And.intro trivial trivial) trivial)) (And.intro (And.intro trivial (S.hd.tup 12 "PRIMES" [.int 2, .int 3, .int 5, .int 7] (by kernel_rfl) (x3 S))) trivial)) (And.intro (And.intro trivial trivial) trivial)) trivial)
theorem f_want_prime (S : Hdp Γ fa fn gs ex) : FnIs Γ s_want_prime e_want_prime (He.fAd Γ.K ("want_prime", none)) := FnIs.of rfl (by kernel_rfl) (S.hd.fnAt 6 s_want_prime (d := fd_want_prime) (by kernel_rfl) rfl rfl rfl rfl rfl rfl rfl) t_want_prime (n_want_prime S) k_want_prime
abbrev fd_want_at_most : He.DefD := ⟨("want_at_most", none), "want_at_most", "want_at_most", defArgs (top 11), defBody (top 11), defScope (top 11), [], []⟩
theorem n_want_at_most (S : Hdp Γ fa fn gs ex) : t_want_at_most.need Γ := (And.intro (And.intro (And.intro trivial trivial) (And.intro (And.intro trivial trivial) trivial)) trivial)
theorem f_want_at_most (S : Hdp Γ fa fn gs ex) : FnIs Γ s_want_at_most e_want_at_most (He.fAd Γ.K ("want_at_most", none)) := FnIs.of rfl (by kernel_rfl) (S.hd.fnAt 7 s_want_at_most (d := fd_want_at_most) (by kernel_rfl) rfl rfl rfl rfl rfl rfl rfl) t_want_at_most (n_want_at_most S) k_want_at_most
abbrev fd_sized : He.DefD := ⟨("sized", none), "sized", "sized", defArgs (top 34), defBody (top 34), defScope (top 34), [], []⟩
theorem n_sized (S : Hdp Γ fa fn gs ex) : t_sized.need Γ := (And.intro trivial (And.intro (And.intro trivial (And.intro (And.intro (S.hd.free 5 "range" (by kernel_rfl)) trivial) (And.intro (And.intro trivial trivial) trivial))) (And.intro trivial trivial)))
theorem f_sized (S : Hdp Γ fa fn gs ex) : FnIs Γ s_sized e_sized (He.fAd Γ.K ("sized", none)) := FnIs.of rfl (by kernel_rfl) (S.hd.fnAt 8 s_sized (d := fd_sized) (by kernel_rfl) rfl rfl rfl rfl rfl rfl rfl) t_sized (n_sized S) k_sized
abbrev fd_poly_of : He.DefD := ⟨("poly_of", none), "poly_of", "poly_of", defArgs (top 30), defBody (top 30), defScope (top 30), [], []⟩
theorem n_poly_of (S : Hdp Γ fa fn gs ex) : t_poly_of.need Γ := (And.intro (And.intro trivial (And.intro trivial trivial)) (And.intro (And.intro (And.intro trivial trivial) (And.intro (And.intro trivial trivial) (And.intro (And.intro trivial trivial) trivial))) (And.intro trivial trivial)))
theorem f_poly_of (S : Hdp Γ fa fn gs ex) : FnIs Γ s_poly_of e_poly_of (He.fAd Γ.K ("poly_of", none)) := FnIs.of rfl (by kernel_rfl) (S.hd.fnAt 9 s_poly_of (d := fd_poly_of) (by kernel_rfl) rfl rfl rfl rfl rfl rfl rfl) t_poly_of (n_poly_of S) k_poly_of
abbrev fd_without_end : He.DefD := ⟨("without_end", none), "without_end", "without_end", defArgs (top 16), defBody (top 16), defScope (top 16), [], []⟩
theorem n_without_end (S : Hdp Γ fa fn gs ex) : t_without_end.need Γ := (And.intro (And.intro trivial (And.intro (S.hd.free 3 "len" (by kernel_rfl)) (And.intro trivial trivial))) (And.intro (And.intro (And.intro (And.intro trivial trivial) (And.intro (And.intro (And.intro trivial (And.intro trivial trivial)) trivial) trivial)) (And.intro (And.intro trivial trivial) trivial)) (And.intro (And.intro trivial (And.intro (S.hd.free 13 "list" (by kernel_rfl)) (And.intro (And.intro trivial (And.intro trivial trivial)) trivial))) trivial)))
theorem f_without_end (S : Hdp Γ fa fn gs ex) : FnIs Γ s_without_end e_without_end (He.fAd Γ.K ("without_end", none)) := FnIs.of rfl (by kernel_rfl) (S.hd.fnAt 10 s_without_end (d := fd_without_end) (by kernel_rfl) rfl rfl rfl rfl rfl rfl rfl) t_without_end (n_without_end S) k_without_end
abbrev fd_undone_by : He.DefD := ⟨("undone_by", none), "undone_by", "undone_by", defArgs (top 18), defBody (top 18), defScope (top 18), [], []⟩
theorem n_undone_by (S : Hdp Γ fa fn gs ex) : t_undone_by.need Γ := (And.intro (And.intro (And.intro trivial (And.intro (And.intro (S.hd.free 5 "range" (by kernel_rfl)) (And.intro trivial trivial)) (And.intro (And.intro (And.intro (And.intro trivial trivial) trivial) trivial) trivial))) trivial) trivial)
theorem f_undone_by (S : Hdp Γ fa fn gs ex) : FnIs Γ s_undone_by e_undone_by (He.fAd Γ.K ("undone_by", none)) := FnIs.of rfl (by kernel_rfl) (S.hd.fnAt 11 s_undone_by (d := fd_undone_by) (by kernel_rfl) rfl rfl rfl rfl rfl rfl rfl) t_undone_by (n_undone_by S) k_undone_by
abbrev fd_poly_rest : He.DefD := ⟨("poly_rest", none), "poly_rest", "poly_rest", defArgs (top 17), defBody (top 17), defScope (top 17), [], []⟩
theorem n_poly_rest (S : Hdp Γ fa fn gs ex) : t_poly_rest.need Γ := (And.intro (And.intro (And.intro (Exists.intro _ (And.intro (S.hd.glo 15 "without_end" (by kernel_rfl)) (f_without_end S))) (And.intro (And.intro trivial trivial) trivial)) (And.intro (And.intro (Exists.intro _ (And.intro (S.hd.glo 14 "undone_by" (by kernel_rfl)) (f_undone_by S))) (And.intro (And.intro trivial (And.intro (And.intro trivial trivial) trivial)) trivial)) trivial)) (And.intro (And.intro (And.intro (And.intro trivial (And.intro (S.hd.free 3 "len" (by kernel_rfl)) (And.intro trivial trivial))) (And.intro trivial (And.intro (S.hd.free 3 "len" (by kernel_rfl)) (And.intro trivial trivial)))) (And.intro (And.intro (And.intro (And.intro trivial (And.intro (S.hd.free 3 "len" (by kernel_rfl)) (And.intro trivial trivial))) (And.intro trivial (And.intro (S.hd.free 3 "len" (by kernel_rfl)) (And.intro trivial trivial)))) (And.intro (And.intro (And.intro (And.intro trivial trivial) trivial) trivial) trivial)) (And.intro (And.intro (And.intro trivial (And.intro trivial trivial)) (And.intro (And.intro (S.hd.free 16 "enumerate" (by kernel_rfl)) trivial) (And.intro (And.intro (And.intro trivial trivial) (And.intro (And.intro (And.intro trivial (And.intro trivial trivial)) (And.intro trivial trivial)) trivial)) trivial))) (And.intro (And.intro (Exists.intro _ (And.intro (S.hd.glo 15 "without_end" (by kernel_rfl)) (f_without_end S))) (And.intro (And.intro trivial trivial) trivial)) trivial)))) (And.intro trivial trivial)))
theorem f_poly_rest (S : Hdp Γ fa fn gs ex) : FnIs Γ s_poly_rest e_poly_rest (He.fAd Γ.K ("poly_rest", none)) := FnIs.of rfl (by kernel_rfl) (S.hd.fnAt 12 s_poly_rest (d := fd_poly_rest) (by kernel_rfl) rfl rfl rfl rfl rfl rfl rfl) t_poly_rest (n_poly_rest S) k_poly_rest
abbrev fd_poly_times : He.DefD := ⟨("poly_times", none), "poly_times", "poly_times", defArgs (top 19), defBody (top 19), defScope (top 19), [], []⟩
theorem n_poly_times (S : Hdp Γ fa fn gs ex) : t_poly_times.need Γ := (And.intro (And.intro (And.intro trivial trivial) (And.intro trivial (And.intro (S.hd.free 17 "max" (by kernel_rfl)) (And.intro trivial (And.intro (And.intro (And.intro (And.intro trivial (And.intro (S.hd.free 3 "len" (by kernel_rfl)) (And.intro trivial trivial))) (And.intro trivial (And.intro (S.hd.free 3 "len" (by kernel_rfl)) (And.intro trivial trivial)))) trivial) trivial))))) (And.intro (And.intro (And.intro trivial (And.intro trivial trivial)) (And.intro (And.intro (S.hd.free 16 "enumerate" (by kernel_rfl)) trivial) (And.intro (And.intro (And.intro trivial (And.intro trivial trivial)) (And.intro (And.intro (S.hd.free 16 "enumerate" (by kernel_rfl)) trivial) (And.intro (And.intro (And.intro trivial trivial) (And.intro (And.intro (And.intro trivial (And.intro trivial trivial)) (And.intro trivial trivial)) trivial)) trivial))) trivial))) (And.intro (And.intro (Exists.intro _ (And.intro (S.hd.glo 18 "poly_rest" (by kernel_rfl)) (f_poly_rest S))) (And.intro (And.intro trivial (And.intro trivial (And.intro trivial trivial))) trivial)) trivial)))
theorem f_poly_times (S : Hdp Γ fa fn gs ex) : FnIs Γ s_poly_times e_poly_times (He.fAd Γ.K ("poly_times", none)) := FnIs.of rfl (by kernel_rfl) (S.hd.fnAt 13 s_poly_times (d := fd_poly_times) (by kernel_rfl) rfl rfl rfl rfl rfl rfl rfl) t_poly_times (n_poly_times S) k_poly_times
abbrev fd_told_number : He.DefD := ⟨("told_number", none), "told_number", "told_number", defArgs (top 29), defBody (top 29), defScope (top 29), [], []⟩
theorem n_told_number (S : Hdp Γ fa fn gs ex) : t_told_number.need Γ := (And.intro trivial (And.intro (And.intro trivial (And.intro trivial (And.intro (And.intro (And.intro trivial trivial) trivial) trivial))) (And.intro trivial trivial)))
theorem f_told_number (S : Hdp Γ fa fn gs ex) : FnIs Γ s_told_number e_told_number (He.fAd Γ.K ("told_number", none)) := FnIs.of rfl (by kernel_rfl) (S.hd.fnAt 14 s_told_number (d := fd_told_number) (by kernel_rfl) rfl rfl rfl rfl rfl rfl rfl) t_told_number (n_told_number S) k_told_number
abbrev fd_powers_by : He.DefD := ⟨("powers_by", none), "powers_by", "powers_by", defArgs (top 31), defBody (top 31), defScope (top 31), [], []⟩
theorem n_powers_by (S : Hdp Γ fa fn gs ex) : t_powers_by.need Γ := (And.intro (And.intro (And.intro (Exists.intro _ (And.intro (S.hd.glo 19 "poly_of" (by kernel_rfl)) (f_poly_of S))) (And.intro (And.intro trivial (And.intro trivial trivial)) trivial)) (And.intro (And.intro trivial trivial) (And.intro (And.intro (Exists.intro _ (And.intro (S.hd.glo 19 "poly_of" (by kernel_rfl)) (f_poly_of S))) (And.intro (And.intro trivial (And.intro trivial trivial)) trivial)) trivial))) (And.intro (And.intro (And.intro trivial (And.intro trivial trivial)) (And.intro (And.intro (Exists.intro _ (And.intro (S.hd.glo 20 "told_number" (by kernel_rfl)) (f_told_number S))) (And.intro (And.intro trivial (And.intro trivial trivial)) trivial)) (And.intro (And.intro (Exists.intro _ (And.intro (S.hd.glo 21 "poly_times" (by kernel_rfl)) (f_poly_times S))) (And.intro (And.intro trivial (And.intro trivial (And.intro trivial (And.intro trivial trivial)))) trivial)) trivial))) (And.intro trivial trivial)))
theorem f_powers_by (S : Hdp Γ fa fn gs ex) : FnIs Γ s_powers_by e_powers_by (He.fAd Γ.K ("powers_by", none)) := FnIs.of rfl (by kernel_rfl) (S.hd.fnAt 15 s_powers_by (d := fd_powers_by) (by kernel_rfl) rfl rfl rfl rfl rfl rfl rfl) t_powers_by (n_powers_by S) k_powers_by
abbrev fd_all_powers : He.DefD := ⟨("all_powers", none), "all_powers", "all_powers", defArgs (top 32), defBody (top 32), defScope (top 32), [], []⟩
theorem n_all_powers (S : Hdp Γ fa fn gs ex) : t_all_powers.need Γ := (And.intro trivial (And.intro (And.intro (Exists.intro _ (And.intro (S.hd.glo 22 "powers_by" (by kernel_rfl)) (f_powers_by S))) (And.intro (And.intro trivial (And.intro trivial (And.intro trivial trivial))) trivial)) (And.intro (And.intro (And.intro (And.intro trivial (And.intro (S.hd.free 3 "len" (by kernel_rfl)) (And.intro trivial trivial))) (And.intro trivial trivial)) (And.intro (And.intro trivial trivial) (And.intro (And.intro (Exists.intro _ (And.intro (S.hd.glo 22 "powers_by" (by kernel_rfl)) (f_powers_by S))) (And.intro (And.intro trivial (And.intro trivial (And.intro trivial trivial))) trivial)) trivial))) (And.intro trivial trivial))))
theorem f_all_powers (S : Hdp Γ fa fn gs ex) : FnIs Γ s_all_powers e_all_powers (He.fAd Γ.K ("all_powers", none)) := FnIs.of rfl (by kernel_rfl) (S.hd.fnAt 16 s_all_powers (d := fd_all_powers) (by kernel_rfl) rfl rfl rfl rfl rfl rfl rfl) t_all_powers (n_all_powers S) k_all_powers
abbrev fd_logs_by : He.DefD := ⟨("logs_by", none), "logs_by", "logs_by", defArgs (top 33), defBody (top 33), defScope (top 33), [], []⟩
theorem n_logs_by (S : Hdp Γ fa fn gs ex) : t_logs_by.need Γ := (And.intro (And.intro (And.intro trivial trivial) trivial) (And.intro (And.intro (And.intro trivial (And.intro trivial trivial)) (And.intro (And.intro (S.hd.free 16 "enumerate" (by kernel_rfl)) trivial) (And.intro (And.intro trivial trivial) trivial))) (And.intro trivial trivial)))
theorem f_logs_by (S : Hdp Γ fa fn gs ex) : FnIs Γ s_logs_by e_logs_by (He.fAd Γ.K ("logs_by", none)) := FnIs.of rfl (by kernel_rfl) (S.hd.fnAt 17 s_logs_by (d := fd_logs_by) (by kernel_rfl) rfl rfl rfl rfl rfl rfl rfl) t_logs_by (n_logs_by S) k_logs_by
abbrev fd_letter_turns : He.DefD := ⟨("letter_turns", none), "letter_turns", "letter_turns", defArgs (top 22), defBody (top 22), defScope (top 22), [], []⟩
theorem n_letter_turns (S : Hdp Γ fa fn gs ex) : t_letter_turns.need Γ := (And.intro (And.intro (And.intro (Exists.intro _ (And.intro (S.hd.glo 18 "poly_rest" (by kernel_rfl)) (f_poly_rest S))) (And.intro (And.intro trivial (And.intro (And.intro trivial (And.intro trivial trivial)) (And.intro trivial trivial))) trivial)) trivial) (And.intro (And.intro trivial (And.intro (And.intro (S.hd.free 5 "range" (by kernel_rfl)) (And.intro (And.intro trivial (And.intro (S.hd.free 3 "len" (by kernel_rfl)) (And.intro trivial trivial))) trivial)) (And.intro (And.intro trivial trivial) (And.intro (And.intro trivial (And.intro (And.intro (S.hd.free 5 "range" (by kernel_rfl)) trivial) (And.intro (And.intro (Exists.intro _ (And.intro (S.hd.glo 21 "poly_times" (by kernel_rfl)) (f_poly_times S))) (And.intro (And.intro trivial (And.intro trivial (And.intro (And.intro trivial trivial) (And.intro trivial trivial)))) trivial)) trivial))) (And.intro trivial trivial))))) (And.intro trivial trivial)))
theorem f_letter_turns (S : Hdp Γ fa fn gs ex) : FnIs Γ s_letter_turns e_letter_turns (He.fAd Γ.K ("letter_turns", none)) := FnIs.of rfl (by kernel_rfl) (S.hd.fnAt 18 s_letter_turns (d := fd_letter_turns) (by kernel_rfl) rfl rfl rfl rfl rfl rfl rfl) t_letter_turns (n_letter_turns S) k_letter_turns
abbrev fd_are_apart : He.DefD := ⟨("are_apart", none), "are_apart", "are_apart", defArgs (top 21), defBody (top 21), defScope (top 21), [], []⟩
theorem n_are_apart (S : Hdp Γ fa fn gs ex) : t_are_apart.need Γ := (And.intro (And.intro trivial (And.intro trivial trivial)) (And.intro (And.intro (And.intro (And.intro trivial (And.intro (S.hd.free 3 "len" (by kernel_rfl)) (And.intro trivial trivial))) trivial) (And.intro (And.intro trivial (And.intro (And.intro (Exists.intro _ (And.intro (S.hd.glo 18 "poly_rest" (by kernel_rfl)) (f_poly_rest S))) (And.intro (And.intro trivial (And.intro trivial (And.intro trivial trivial))) trivial)) trivial)) trivial)) (And.intro (And.intro (And.intro trivial (And.intro (S.hd.free 3 "len" (by kernel_rfl)) (And.intro trivial trivial))) trivial) trivial)))
theorem f_are_apart (S : Hdp Γ fa fn gs ex) : FnIs Γ s_are_apart e_are_apart (He.fAd Γ.K ("are_apart", none)) := FnIs.of rfl (by kernel_rfl) (S.hd.fnAt 19 s_are_apart (d := fd_are_apart) (by kernel_rfl) rfl rfl rfl rfl rfl rfl rfl) t_are_apart (n_are_apart S) k_are_apart
abbrev fd_is_prime : He.DefD := ⟨("is_prime", none), "is_prime", "is_prime", defArgs (top 24), defBody (top 24), defScope (top 24), [], []⟩
theorem n_is_prime (S : Hdp Γ fa fn gs ex) : t_is_prime.need Γ := (And.intro (And.intro trivial (And.intro (S.hd.free 23 "all" (by kernel_rfl)) (And.intro (And.intro trivial (And.intro (And.intro (S.hd.free 5 "range" (by kernel_rfl)) (And.intro trivial trivial)) (And.intro trivial (And.intro (And.intro trivial trivial) trivial)))) trivial))) trivial)
theorem f_is_prime (S : Hdp Γ fa fn gs ex) : FnIs Γ s_is_prime e_is_prime (He.fAd Γ.K ("is_prime", none)) := FnIs.of rfl (by kernel_rfl) (S.hd.fnAt 20 s_is_prime (d := fd_is_prime) (by kernel_rfl) rfl rfl rfl rfl rfl rfl rfl) t_is_prime (n_is_prime S) k_is_prime
abbrev fd_poly_less : He.DefD := ⟨("poly_less", none), "poly_less", "poly_less", defArgs (top 20), defBody (top 20), defScope (top 20), [], []⟩
theorem n_poly_less (S : Hdp Γ fa fn gs ex) : t_poly_less.need Γ := (And.intro (And.intro trivial (And.intro (S.hd.free 17 "max" (by kernel_rfl)) (And.intro (And.intro trivial (And.intro (S.hd.free 3 "len" (by kernel_rfl)) (And.intro trivial trivial))) (And.intro (And.intro trivial (And.intro (S.hd.free 3 "len" (by kernel_rfl)) (And.intro trivial trivial))) trivial)))) (And.intro (And.intro (And.intro trivial (And.intro (And.intro trivial trivial) (And.intro trivial (And.intro trivial (And.intro (S.hd.free 3 "len" (by kernel_rfl)) (And.intro trivial trivial)))))) (And.intro (And.intro trivial (And.intro (And.intro trivial trivial) (And.intro trivial (And.intro trivial (And.intro (S.hd.free 3 "len" (by kernel_rfl)) (And.intro trivial trivial)))))) trivial)) (And.intro (And.intro (Exists.intro _ (And.intro (S.hd.glo 15 "without_end" (by kernel_rfl)) (f_without_end S))) (And.intro (And.intro (And.intro (And.intro trivial (And.intro trivial trivial)) (And.intro (And.intro (S.hd.free 24 "zip" (by kernel_rfl)) (And.intro trivial trivial)) (And.intro trivial (And.intro (And.intro trivial trivial) trivial)))) trivial) trivial)) trivial)))
theorem f_poly_less (S : Hdp Γ fa fn gs ex) : FnIs Γ s_poly_less e_poly_less (He.fAd Γ.K ("poly_less", none)) := FnIs.of rfl (by kernel_rfl) (S.hd.fnAt 21 s_poly_less (d := fd_poly_less) (by kernel_rfl) rfl rfl rfl rfl rfl rfl rfl) t_poly_less (n_poly_less S) k_poly_less
abbrev fd_is_single : He.DefD := ⟨("is_single", none), "is_single", "is_single", defArgs (top 23), defBody (top 23), defScope (top 23), [], []⟩
theorem n_is_single (S : Hdp Γ fa fn gs ex) : t_is_single.need Γ := (And.intro (And.intro (And.intro trivial (And.intro trivial trivial)) (And.intro (And.intro (And.intro trivial (And.intro (S.hd.free 3 "len" (by kernel_rfl)) (And.intro trivial trivial))) trivial) (And.intro (And.intro (Exists.intro _ (And.intro (S.hd.glo 25 "letter_turns" (by kernel_rfl)) (f_letter_turns S))) (And.intro (And.intro trivial (And.intro trivial trivial)) trivial)) trivial))) (And.intro (And.intro (And.intro (And.intro trivial trivial) (And.intro trivial trivial)) (And.intro (And.intro trivial trivial) trivial)) (And.intro (And.intro trivial (And.intro (And.intro (S.hd.free 5 "range" (by kernel_rfl)) (And.intro trivial (And.intro trivial trivial))) (And.intro (And.intro (And.intro (And.intro trivial trivial) trivial) (And.intro (And.intro (Exists.intro _ (And.intro (S.hd.glo 26 "is_prime" (by kernel_rfl)) (f_is_prime S))) (And.intro (And.intro trivial trivial) trivial)) trivial)) trivial))) (And.intro (And.intro trivial (And.intro (S.hd.free 23 "all" (by kernel_rfl)) (And.intro (And.intro trivial (And.intro trivial (And.intro trivial (And.intro (Exists.intro _ (And.intro (S.hd.glo 27 "are_apart" (by kernel_rfl)) (f_are_apart S))) (And.intro (And.intro trivial (And.intro (And.intro trivial (And.intro (S.hd.free 13 "list" (by kernel_rfl)) (And.intro trivial trivial))) (And.intro (And.intro (Exists.intro _ (And.intro (S.hd.glo 28 "poly_less" (by kernel_rfl)) (f_poly_less S))) (And.intro (And.intro trivial (And.intro (And.intro trivial (And.intro trivial trivial)) (And.intro (And.intro trivial trivial) trivial))) trivial)) trivial))) trivial))))) trivial))) trivial))))
theorem f_is_single (S : Hdp Γ fa fn gs ex) : FnIs Γ s_is_single e_is_single (He.fAd Γ.K ("is_single", none)) := FnIs.of rfl (by kernel_rfl) (S.hd.fnAt 22 s_is_single (d := fd_is_single) (by kernel_rfl) rfl rfl rfl rfl rfl rfl rfl) t_is_single (n_is_single S) k_is_single
abbrev fd_is_list : He.DefD := ⟨("is_list", none), "is_list", "is_list", defArgs (top 10), defBody (top 10), defScope (top 10), [], []⟩
theorem n_is_list (S : Hdp Γ fa fn gs ex) : t_is_list.need Γ := (And.intro (And.intro (S.hd.free 6 "isinstance" (by kernel_rfl)) (And.intro (fun c h => by rw [List.mem_singleton.mp h]; exact (cf0 S)) (And.intro (And.intro (S.hd.free 13 "list" (by kernel_rfl)) (S.hd.free 29 "tuple" (by kernel_rfl))) (And.intro (fun v h => by rcases List.mem_cons.mp h with rfl | h; exact (isi_of (x4 S)); rw [List.mem_singleton.mp h]; exact (isi_of (x5 S))) trivial)))) trivial)
theorem f_is_list (S : Hdp Γ fa fn gs ex) : FnIs Γ s_is_list e_is_list (He.fAd Γ.K ("is_list", none)) := FnIs.of rfl (by kernel_rfl) (S.hd.fnAt 23 s_is_list (d := fd_is_list) (by kernel_rfl) rfl rfl rfl rfl rfl rfl rfl) t_is_list (n_is_list S) k_is_list
abbrev fd_is_figures : He.DefD := ⟨("is_figures", none), "is_figures", "is_figures", defArgs (top 26), defBody (top 26), defScope (top 26), [], []⟩
theorem n_is_figures (S : Hdp Γ fa fn gs ex) : t_is_figures.need Γ := (And.intro (And.intro (And.intro (Exists.intro _ (And.intro (S.hd.glo 30 "is_list" (by kernel_rfl)) (f_is_list S))) (And.intro (And.intro trivial trivial) trivial)) (And.intro (And.intro (And.intro trivial (And.intro (S.hd.free 3 "len" (by kernel_rfl)) (And.intro trivial trivial))) trivial) (And.intro (And.intro trivial (And.intro (S.hd.free 23 "all" (by kernel_rfl)) (And.intro (And.intro trivial (And.intro trivial (And.intro trivial (And.intro (And.intro (Exists.intro _ (And.intro (S.hd.glo 11 "is_count" (by kernel_rfl)) (f_is_count S))) (And.intro (And.intro trivial trivial) trivial)) (And.intro (And.intro trivial trivial) trivial))))) trivial))) trivial))) trivial)
theorem f_is_figures (S : Hdp Γ fa fn gs ex) : FnIs Γ s_is_figures e_is_figures (He.fAd Γ.K ("is_figures", none)) := FnIs.of rfl (by kernel_rfl) (S.hd.fnAt 24 s_is_figures (d := fd_is_figures) (by kernel_rfl) rfl rfl rfl rfl rfl rfl rfl) t_is_figures (n_is_figures S) k_is_figures
abbrev fd_is_right : He.DefD := ⟨("is_right", none), "is_right", "is_right", defArgs (top 27), defBody (top 27), defScope (top 27), [], []⟩
theorem n_is_right (S : Hdp Γ fa fn gs ex) : t_is_right.need Γ := (And.intro (And.intro (And.intro (And.intro (Exists.intro _ (And.intro (S.hd.glo 30 "is_list" (by kernel_rfl)) (f_is_list S))) (And.intro (And.intro trivial trivial) trivial)) (And.intro (And.intro trivial (And.intro (And.intro trivial (And.intro (S.hd.free 3 "len" (by kernel_rfl)) (And.intro trivial trivial))) (And.intro (S.hd.int 31 "MOST_TURNS" 12 (by kernel_rfl)) trivial))) (And.intro (And.intro (Exists.intro _ (And.intro (S.hd.glo 32 "is_figures" (by kernel_rfl)) (f_is_figures S))) (And.intro (And.intro trivial (And.intro trivial (And.intro (And.intro trivial (And.intro (S.hd.free 3 "len" (by kernel_rfl)) (And.intro trivial trivial))) trivial))) trivial)) trivial))) (And.intro (And.intro trivial trivial) trivial)) (And.intro (And.intro (And.intro (And.intro trivial trivial) trivial) (And.intro (And.intro (Exists.intro _ (And.intro (S.hd.glo 33 "is_single" (by kernel_rfl)) (f_is_single S))) (And.intro (And.intro trivial (And.intro (And.intro trivial (And.intro (S.hd.free 13 "list" (by kernel_rfl)) (And.intro trivial trivial))) trivial)) trivial)) trivial)) trivial))
theorem f_is_right (S : Hdp Γ fa fn gs ex) : FnIs Γ s_is_right e_is_right (He.fAd Γ.K ("is_right", none)) := FnIs.of rfl (by kernel_rfl) (S.hd.fnAt 25 s_is_right (d := fd_is_right) (by kernel_rfl) rfl rfl rfl rfl rfl rfl rfl) t_is_right (n_is_right S) k_is_right
abbrev fd_Field___init__ : He.DefD := ⟨("Field", some "__init__"), "__init__", "Field.__init__", defArgs (mth 35 0), defBody (mth 35 0), defScope (mth 35 0), [], []⟩
theorem n_Field___init__ (S : Hdp Γ fa fn gs ex) : t_Field___init__.need Γ := (And.intro (And.intro (Exists.intro _ (And.intro (S.hd.glo 34 "want_prime" (by kernel_rfl)) (f_want_prime S))) (And.intro (And.intro trivial trivial) trivial)) (And.intro (And.intro (And.intro (Exists.intro _ (And.intro (S.hd.glo 35 "is_right" (by kernel_rfl)) (f_is_right S))) (And.intro (And.intro trivial (And.intro trivial trivial)) trivial)) (And.intro (And.intro trivial trivial) trivial)) (And.intro (And.intro (Exists.intro _ (And.intro (S.hd.glo 36 "want_at_most" (by kernel_rfl)) (f_want_at_most S))) (And.intro (And.intro trivial (And.intro (S.hd.int 37 "MOST_SIZE" 128 (by kernel_rfl)) (And.intro (And.intro (Exists.intro _ (And.intro (S.hd.glo 38 "sized" (by kernel_rfl)) (f_sized S))) (And.intro (And.intro trivial (And.intro (And.intro (And.intro trivial (And.intro (S.hd.free 3 "len" (by kernel_rfl)) (And.intro trivial trivial))) trivial) trivial)) trivial)) trivial))) trivial)) (And.intro (And.intro (cf0 S) trivial) (And.intro (And.intro (cf0 S) (And.intro (And.intro trivial (And.intro (S.hd.free 3 "len" (by kernel_rfl)) (And.intro trivial trivial))) trivial)) (And.intro (And.intro (cf0 S) (And.intro (Exists.intro _ (And.intro (S.hd.glo 38 "sized" (by kernel_rfl)) (f_sized S))) (And.intro (And.intro trivial (And.intro (And.intro (And.intro trivial (And.intro (S.hd.free 3 "len" (by kernel_rfl)) (And.intro trivial trivial))) trivial) trivial)) trivial))) (And.intro (And.intro (cf0 S) (And.intro trivial (And.intro (S.hd.free 13 "list" (by kernel_rfl)) (And.intro trivial trivial)))) (And.intro (And.intro (cf0 S) (And.intro (Exists.intro _ (And.intro (S.hd.glo 39 "all_powers" (by kernel_rfl)) (f_all_powers S))) (And.intro (And.intro trivial (And.intro (And.intro trivial (And.intro (S.hd.free 13 "list" (by kernel_rfl)) (And.intro trivial trivial))) (And.intro (And.intro (Exists.intro _ (And.intro (S.hd.glo 38 "sized" (by kernel_rfl)) (f_sized S))) (And.intro (And.intro trivial (And.intro (And.intro (And.intro trivial (And.intro (S.hd.free 3 "len" (by kernel_rfl)) (And.intro trivial trivial))) trivial) trivial)) trivial)) trivial))) trivial))) (And.intro (And.intro (cf0 S) (And.intro (Exists.intro _ (And.intro (S.hd.glo 40 "logs_by" (by kernel_rfl)) (f_logs_by S))) (And.intro (And.intro (cf0 S) (And.intro (cf0 S) trivial)) trivial))) trivial)))))))))
theorem f_Field___init__ (S : Hdp Γ fa fn gs ex) : InitIs Γ 0 s_Field___init__ e_Field___init__ (He.fAd Γ.K ("Field", some "__init__")) := InitIs.of (c := 0) S.hd.cd (He.mkr_ok (S.hd.fact 52 (f := .mkr (cdT 0).1) (by kernel_rfl))) rfl (by kernel_rfl) (S.hd.fnAt 26 s_Field___init__ (d := fd_Field___init__) (by kernel_rfl) rfl rfl rfl rfl rfl rfl rfl) t_Field___init__ (n_Field___init__ S) k_Field___init__
abbrev fd_Field_modulus : He.DefD := ⟨("Field", some "modulus"), "modulus", "Field.modulus", defArgs (mth 35 4), defBody (mth 35 4), defScope (mth 35 4), [], []⟩
theorem n_Field_modulus (S : Hdp Γ fa fn gs ex) : t_Field_modulus.need Γ := (And.intro (And.intro trivial (And.intro (S.hd.free 13 "list" (by kernel_rfl)) (And.intro (And.intro (fun c h => by rw [List.mem_singleton.mp h]; exact (cf0 S)) trivial) trivial))) trivial)
theorem f_Field_modulus (S : Hdp Γ fa fn gs ex) : FnIs Γ s_Field_modulus e_Field_modulus (He.fAd Γ.K ("Field", some "modulus")) := FnIs.of rfl (by kernel_rfl) (S.hd.fnAt 27 s_Field_modulus (d := fd_Field_modulus) (by kernel_rfl) rfl rfl rfl rfl rfl rfl rfl) t_Field_modulus (n_Field_modulus S) k_Field_modulus
theorem m_Field_modulus (S : Hdp Γ fa fn gs ex) : MethIs Γ 0 "modulus" s_Field_modulus e_Field_modulus := ⟨cf0 S, by decide, _, He.meth_ok (S.hd.fact 53 (f := .meth "Field" "modulus") (by kernel_rfl)), f_Field_modulus S⟩
abbrev fd_is_modulus : He.DefD := ⟨("is_modulus", none), "is_modulus", "is_modulus", defArgs (top 28), defBody (top 28), defScope (top 28), [], []⟩
theorem n_is_modulus (S : Hdp Γ fa fn gs ex) : t_is_modulus.need Γ := (And.intro (And.intro (Exists.intro _ (And.intro (S.hd.glo 34 "want_prime" (by kernel_rfl)) (f_want_prime S))) (And.intro (And.intro trivial trivial) trivial)) (And.intro (And.intro (Exists.intro _ (And.intro (S.hd.glo 35 "is_right" (by kernel_rfl)) (f_is_right S))) (And.intro (And.intro trivial (And.intro trivial trivial)) trivial)) trivial))
theorem f_is_modulus (S : Hdp Γ fa fn gs ex) : FnIs Γ s_is_modulus e_is_modulus (He.fAd Γ.K ("is_modulus", none)) := FnIs.of rfl (by kernel_rfl) (S.hd.fnAt 28 s_is_modulus (d := fd_is_modulus) (by kernel_rfl) rfl rfl rfl rfl rfl rfl rfl) t_is_modulus (n_is_modulus S) k_is_modulus
abbrev fd_Field_prime : He.DefD := ⟨("Field", some "prime"), "prime", "Field.prime", defArgs (mth 35 1), defBody (mth 35 1), defScope (mth 35 1), [], []⟩
theorem n_Field_prime (S : Hdp Γ fa fn gs ex) : t_Field_prime.need Γ := (And.intro (And.intro (fun c h => by rw [List.mem_singleton.mp h]; exact (cf0 S)) trivial) trivial)
theorem f_Field_prime (S : Hdp Γ fa fn gs ex) : FnIs Γ s_Field_prime e_Field_prime (gOf Γ.K fd_Field_prime) := FnIs.of rfl (by kernel_rfl) (S.getAt 0 s_Field_prime (d := fd_Field_prime) (by kernel_rfl) rfl rfl rfl rfl rfl rfl rfl) t_Field_prime (n_Field_prime S) k_Field_prime
theorem p_Field_prime (S : Hdp Γ fa fn gs ex) : PropIs Γ 0 "prime" s_Field_prime e_Field_prime := ⟨cf0 S, _, _, propB_ok (x10 S), f_Field_prime S⟩
abbrev fd_Field_turns : He.DefD := ⟨("Field", some "turns"), "turns", "Field.turns", defArgs (mth 35 2), defBody (mth 35 2), defScope (mth 35 2), [], []⟩
theorem n_Field_turns (S : Hdp Γ fa fn gs ex) : t_Field_turns.need Γ := (And.intro (And.intro (fun c h => by rw [List.mem_singleton.mp h]; exact (cf0 S)) trivial) trivial)
theorem f_Field_turns (S : Hdp Γ fa fn gs ex) : FnIs Γ s_Field_turns e_Field_turns (gOf Γ.K fd_Field_turns) := FnIs.of rfl (by kernel_rfl) (S.getAt 1 s_Field_turns (d := fd_Field_turns) (by kernel_rfl) rfl rfl rfl rfl rfl rfl rfl) t_Field_turns (n_Field_turns S) k_Field_turns
theorem p_Field_turns (S : Hdp Γ fa fn gs ex) : PropIs Γ 0 "turns" s_Field_turns e_Field_turns := ⟨cf0 S, _, _, propB_ok (x11 S), f_Field_turns S⟩
abbrev fd_Field_size : He.DefD := ⟨("Field", some "size"), "size", "Field.size", defArgs (mth 35 3), defBody (mth 35 3), defScope (mth 35 3), [], []⟩
theorem n_Field_size (S : Hdp Γ fa fn gs ex) : t_Field_size.need Γ := (And.intro (And.intro (fun c h => by rw [List.mem_singleton.mp h]; exact (cf0 S)) trivial) trivial)
theorem f_Field_size (S : Hdp Γ fa fn gs ex) : FnIs Γ s_Field_size e_Field_size (gOf Γ.K fd_Field_size) := FnIs.of rfl (by kernel_rfl) (S.getAt 2 s_Field_size (d := fd_Field_size) (by kernel_rfl) rfl rfl rfl rfl rfl rfl rfl) t_Field_size (n_Field_size S) k_Field_size
theorem p_Field_size (S : Hdp Γ fa fn gs ex) : PropIs Γ 0 "size" s_Field_size e_Field_size := ⟨cf0 S, _, _, propB_ok (x12 S), f_Field_size S⟩
abbrev fd_is_in : He.DefD := ⟨("is_in", none), "is_in", "is_in", defArgs (top 38), defBody (top 38), defScope (top 38), [], []⟩
theorem n_is_in (S : Hdp Γ fa fn gs ex) : t_is_in.need Γ := (And.intro (And.intro (And.intro (Exists.intro _ (And.intro (S.hd.glo 11 "is_count" (by kernel_rfl)) (f_is_count S))) (And.intro (And.intro trivial trivial) trivial)) (And.intro (And.intro trivial (And.intro (fun c h => by rw [List.mem_singleton.mp h]; exact (cf0 S)) trivial)) trivial)) trivial)
theorem f_is_in (S : Hdp Γ fa fn gs ex) : FnIs Γ s_is_in e_is_in (He.fAd Γ.K ("is_in", none)) := FnIs.of rfl (by kernel_rfl) (S.hd.fnAt 29 s_is_in (d := fd_is_in) (by kernel_rfl) rfl rfl rfl rfl rfl rfl rfl) t_is_in (n_is_in S) k_is_in
abbrev fd_want_field : He.DefD := ⟨("want_field", none), "want_field", "want_field", defArgs (top 36), defBody (top 36), defScope (top 36), [], []⟩
theorem n_want_field (S : Hdp Γ fa fn gs ex) : t_want_field.need Γ := (And.intro (And.intro (And.intro (S.hd.free 6 "isinstance" (by kernel_rfl)) (And.intro (fun c h => by rw [List.mem_singleton.mp h]; exact (cf0 S)) (And.intro (cf0 S) (And.intro (isi_of (x6 S)) trivial)))) (And.intro (And.intro trivial trivial) trivial)) (And.intro trivial trivial))
theorem f_want_field (S : Hdp Γ fa fn gs ex) : FnIs Γ s_want_field e_want_field (He.fAd Γ.K ("want_field", none)) := FnIs.of rfl (by kernel_rfl) (S.hd.fnAt 30 s_want_field (d := fd_want_field) (by kernel_rfl) rfl rfl rfl rfl rfl rfl rfl) t_want_field (n_want_field S) k_want_field
abbrev fd_is_element : He.DefD := ⟨("is_element", none), "is_element", "is_element", defArgs (top 39), defBody (top 39), defScope (top 39), [], []⟩
theorem n_is_element (S : Hdp Γ fa fn gs ex) : t_is_element.need Γ := (And.intro (And.intro (Exists.intro _ (And.intro (S.hd.glo 41 "is_in" (by kernel_rfl)) (f_is_in S))) (And.intro (And.intro (And.intro (Exists.intro _ (And.intro (S.hd.glo 42 "want_field" (by kernel_rfl)) (f_want_field S))) (And.intro (And.intro trivial trivial) trivial)) (And.intro trivial trivial)) trivial)) trivial)
theorem f_is_element (S : Hdp Γ fa fn gs ex) : FnIs Γ s_is_element e_is_element (He.fAd Γ.K ("is_element", none)) := FnIs.of rfl (by kernel_rfl) (S.hd.fnAt 31 s_is_element (d := fd_is_element) (by kernel_rfl) rfl rfl rfl rfl rfl rfl rfl) t_is_element (n_is_element S) k_is_element
abbrev fd_Field___repr__ : He.DefD := ⟨("Field", some "__repr__"), "__repr__", "Field.__repr__", defArgs (mth 35 6), defBody (mth 35 6), defScope (mth 35 6), [], []⟩
theorem n_Field___repr__ (S : Hdp Γ fa fn gs ex) : t_Field___repr__.need Γ := (And.intro (And.intro trivial (And.intro (And.intro (fun c h => by rw [List.mem_singleton.mp h]; exact (cf0 S)) trivial) (And.intro trivial (And.intro (And.intro trivial (And.intro (S.hd.free 44 "repr" (by kernel_rfl)) (And.intro (And.intro (fun c h => by rw [List.mem_singleton.mp h]; exact (cf0 S)) trivial) trivial))) (And.intro trivial trivial))))) trivial)
theorem f_Field___repr__ (S : Hdp Γ fa fn gs ex) : FnIs Γ s_Field___repr__ e_Field___repr__ (He.fAd Γ.K ("Field", some "__repr__")) := FnIs.of rfl (by kernel_rfl) (S.hd.fnAt 32 s_Field___repr__ (d := fd_Field___repr__) (by kernel_rfl) rfl rfl rfl rfl rfl rfl rfl) t_Field___repr__ (n_Field___repr__ S) k_Field___repr__
theorem m_Field___repr__ (S : Hdp Γ fa fn gs ex) : MethIs Γ 0 "__repr__" s_Field___repr__ e_Field___repr__ := ⟨cf0 S, by decide, _, He.meth_ok (S.hd.fact 54 (f := .meth "Field" "__repr__") (by kernel_rfl)), f_Field___repr__ S⟩
abbrev fd_Field___eq__ : He.DefD := ⟨("Field", some "__eq__"), "__eq__", "Field.__eq__", defArgs (mth 35 5), defBody (mth 35 5), defScope (mth 35 5), [], []⟩
theorem n_Field___eq__ (S : Hdp Γ fa fn gs ex) : t_Field___eq__.need Γ := (And.intro (And.intro (And.intro (S.hd.free 6 "isinstance" (by kernel_rfl)) (And.intro (fun c h => by rw [List.mem_singleton.mp h]; exact (cf0 S)) (And.intro (cf0 S) (And.intro (isi_of (x6 S)) trivial)))) (And.intro (And.intro trivial trivial) trivial)) (And.intro (And.intro (And.intro (And.intro (fun c h => by rw [List.mem_singleton.mp h]; exact (cf0 S)) trivial) (And.intro (fun c h => by rw [List.mem_singleton.mp h]; exact (cf0 S)) trivial)) (And.intro (And.intro (And.intro (fun c h => by rw [List.mem_singleton.mp h]; exact (cf0 S)) trivial) (And.intro (fun c h => by rw [List.mem_singleton.mp h]; exact (cf0 S)) trivial)) trivial)) trivial))
theorem f_Field___eq__ (S : Hdp Γ fa fn gs ex) : FnIs Γ s_Field___eq__ e_Field___eq__ (He.fAd Γ.K ("Field", some "__eq__")) := FnIs.of rfl (by kernel_rfl) (S.hd.fnAt 33 s_Field___eq__ (d := fd_Field___eq__) (by kernel_rfl) rfl rfl rfl rfl rfl rfl rfl) t_Field___eq__ (n_Field___eq__ S) k_Field___eq__
theorem m_Field___eq__ (S : Hdp Γ fa fn gs ex) : MethIs Γ 0 "__eq__" s_Field___eq__ e_Field___eq__ := ⟨cf0 S, by decide, _, He.meth_ok (S.hd.fact 55 (f := .meth "Field" "__eq__") (by kernel_rfl)), f_Field___eq__ S⟩
abbrev fd__law_right : He.DefD := ⟨("_law_right", none), "_law_right", "_law_right", defArgs (top 46), defBody (top 46), defScope (top 46), [], []⟩
theorem n__law_right (S : Hdp Γ fa fn gs ex) : t__law_right.need Γ := (And.intro (And.intro (And.intro trivial (And.intro trivial trivial)) (And.intro (Exists.intro _ (And.intro (S.hd.glo 43 "_law_field" (by kernel_rfl)) (f__law_field S))) (And.intro (And.intro trivial trivial) trivial))) (And.intro (And.intro (And.intro (And.intro (Exists.intro _ (And.intro (S.hd.glo 2 "_law_draw" (by kernel_rfl)) (f__law_draw S))) (And.intro (And.intro trivial (And.intro trivial trivial)) trivial)) trivial) (And.intro (And.intro trivial (And.intro (S.hd.free 29 "tuple" (by kernel_rfl)) (And.intro trivial trivial))) (And.intro trivial (And.intro (S.hd.free 13 "list" (by kernel_rfl)) (And.intro trivial trivial))))) (And.intro (And.intro (And.intro trivial (And.intro (S.hd.free 44 "repr" (by kernel_rfl)) (And.intro trivial trivial))) (And.intro (And.intro (cf0 S) (And.intro (Exists.intro _ (f_Field___init__ S)) (And.intro (And.intro trivial (And.intro trivial trivial)) trivial))) trivial)) (And.intro (And.intro (Exists.intro _ (And.intro (S.hd.glo 45 "_law_size" (by kernel_rfl)) (f__law_size S))) (And.intro (And.intro trivial (And.intro trivial trivial)) trivial)) (And.intro (And.intro (And.intro (And.intro trivial (And.intro (S.hd.free 44 "repr" (by kernel_rfl)) (And.intro (And.intro (And.intro (p_Field_prime S) trivial) (And.intro (And.intro (p_Field_turns S) trivial) (And.intro (And.intro (p_Field_size S) trivial) trivial))) trivial))) (And.intro trivial (And.intro (S.hd.free 44 "repr" (by kernel_rfl)) (And.intro (And.intro trivial (And.intro (And.intro (And.intro trivial (And.intro (S.hd.free 3 "len" (by kernel_rfl)) (And.intro trivial trivial))) trivial) (And.intro trivial trivial))) trivial)))) (And.intro (And.intro trivial trivial) trivial)) (And.intro (And.intro (And.intro (And.intro (And.intro (reprB_ok (c := 0) (cf0 S) (f_Field___repr__ S) (x7 S)) (And.intro (S.hd.free 44 "repr" (by kernel_rfl)) trivial)) (And.intro (And.intro (And.intro (And.intro trivial (And.intro trivial (And.intro (S.hd.free 44 "repr" (by kernel_rfl)) (And.intro trivial trivial)))) trivial) (And.intro trivial (And.intro (S.hd.free 44 "repr" (by kernel_rfl)) (And.intro trivial trivial)))) trivial)) (And.intro (And.intro (And.intro (Exists.intro _ (And.intro (S.hd.glo 46 "is_modulus" (by kernel_rfl)) (f_is_modulus S))) (And.intro (And.intro trivial (And.intro trivial trivial)) trivial)) trivial) trivial)) (And.intro (And.intro trivial trivial) trivial)) (And.intro (And.intro (And.intro (And.intro (m_Field_modulus S) trivial) trivial) (And.intro (And.intro trivial trivial) trivial)) (And.intro (And.intro (And.intro (m_Field_modulus S) trivial) trivial) (And.intro (And.intro (cf0 S) (And.intro (Exists.intro _ (f_Field___init__ S)) (And.intro trivial (And.intro trivial trivial)))) (And.intro (And.intro (And.intro (And.intro (And.intro (m_Field_modulus S) trivial) trivial) (And.intro (And.intro (eqB_ok (c := 0) (cf0 S) (f_Field___eq__ S) (x8 S)) (And.intro trivial trivial)) (And.intro (And.intro (eqB_ok (c := 0) (cf0 S) (f_Field___eq__ S) (x8 S)) (And.intro trivial trivial)) (And.intro (And.intro (And.intro trivial (And.intro (S.hd.free 44 "repr" (by kernel_rfl)) (And.intro trivial trivial))) trivial) trivial)))) (And.intro (And.intro trivial trivial) trivial)) (And.intro (And.intro (And.intro trivial (And.intro trivial trivial)) (And.intro (Exists.intro _ (And.intro (S.hd.glo 43 "_law_field" (by kernel_rfl)) (f__law_field S))) (And.intro (And.intro trivial trivial) trivial))) (And.intro (And.intro (cf0 S) (And.intro (Exists.intro _ (f_Field___init__ S)) (And.intro (And.intro trivial (And.intro trivial trivial)) trivial))) (And.intro (And.intro (And.intro (And.intro (And.intro (eqB_ok (c := 0) (cf0 S) (f_Field___eq__ S) (x8 S)) (And.intro trivial trivial)) (And.intro (And.intro trivial (And.intro trivial trivial)) (And.intro trivial (And.intro trivial trivial)))) (And.intro (And.intro (And.intro (eqB_ok (c := 0) (cf0 S) (f_Field___eq__ S) (x8 S)) (And.intro trivial trivial)) (And.intro (eqB_ok (c := 0) (cf0 S) (f_Field___eq__ S) (x8 S)) (And.intro trivial trivial))) trivial)) (And.intro (And.intro trivial trivial) trivial)) (And.intro (And.intro (And.intro (And.intro (And.intro (eqB_ok (c := 0) (cf0 S) (f_Field___eq__ S) (x8 S)) (subsB_ok (c := 0) (x9 S))) (And.intro trivial trivial)) (And.intro (And.intro (And.intro (eqB_ok (c := 0) (cf0 S) (f_Field___eq__ S) (x8 S)) (subsB_ok (c := 0) (x9 S))) (And.intro trivial (And.intro (reprB_ok (c := 0) (cf0 S) (f_Field___repr__ S) (x7 S)) (And.intro (S.hd.free 44 "repr" (by kernel_rfl)) trivial)))) (And.intro (And.intro (And.intro (eqB_ok (c := 0) (cf0 S) (f_Field___eq__ S) (x8 S)) (subsB_ok (c := 0) (x9 S))) (And.intro trivial (And.intro trivial (And.intro trivial trivial)))) trivial))) (And.intro (And.intro trivial trivial) trivial)) (And.intro (And.intro trivial (And.intro trivial (And.intro (And.intro trivial trivial) (And.intro trivial (And.intro (And.intro trivial trivial) (And.intro trivial (And.intro (And.intro trivial trivial) (And.intro trivial (And.intro trivial (And.intro trivial (And.intro trivial (And.intro (And.intro trivial trivial) (And.intro trivial (And.intro trivial (And.intro trivial trivial))))))))))))))) (And.intro (And.intro trivial (And.intro (And.intro trivial (And.intro (And.intro (Exists.intro _ (And.intro (S.hd.glo 2 "_law_draw" (by kernel_rfl)) (f__law_draw S))) (And.intro (And.intro trivial (And.intro trivial trivial)) trivial)) trivial)) (And.intro (And.intro (And.intro (S.hd.free 6 "isinstance" (by kernel_rfl)) (And.intro (fun c h => by rw [List.mem_singleton.mp h]; exact (cf0 S)) (And.intro (S.hd.free 1 "int" (by kernel_rfl)) (And.intro (isi_of (x0 S)) trivial)))) (And.intro (And.intro (S.hd.free 6 "isinstance" (by kernel_rfl)) (And.intro (fun c h => by rw [List.mem_singleton.mp h]; exact (cf0 S)) (And.intro (S.hd.free 9 "bool" (by kernel_rfl)) (And.intro (isi_of (x2 S)) trivial)))) (And.intro (And.intro trivial (And.intro trivial trivial)) trivial))) (And.intro (And.intro (And.intro (And.intro trivial (And.intro (S.hd.free 44 "repr" (by kernel_rfl)) (And.intro (And.intro (And.intro (Exists.intro _ (And.intro (S.hd.glo 47 "is_element" (by kernel_rfl)) (f_is_element S))) (And.intro (And.intro trivial (And.intro trivial trivial)) trivial)) (And.intro (And.intro (Exists.intro _ (And.intro (S.hd.glo 47 "is_element" (by kernel_rfl)) (f_is_element S))) (And.intro trivial (And.intro trivial trivial))) trivial)) trivial))) (And.intro trivial (And.intro (S.hd.free 44 "repr" (by kernel_rfl)) (And.intro (And.intro (And.intro trivial trivial) trivial) trivial)))) (And.intro (And.intro trivial trivial) trivial)) trivial)))) (And.intro trivial trivial)))))))))))))))))
theorem f__law_right (S : Hdp Γ fa fn gs ex) : FnIs Γ s__law_right e__law_right (He.fAd Γ.K ("_law_right", none)) := FnIs.of rfl (by kernel_rfl) (S.hd.fnAt 34 s__law_right (d := fd__law_right) (by kernel_rfl) rfl rfl rfl rfl rfl rfl rfl) t__law_right (n__law_right S) k__law_right
abbrev fd__law_pot : He.DefD := ⟨("_law_pot", none), "_law_pot", "_law_pot", defArgs (top 41), defBody (top 41), defScope (top 41), [], []⟩
theorem n__law_pot (S : Hdp Γ fa fn gs ex) : t__law_pot.need Γ := (And.intro (And.intro (And.intro trivial (And.intro trivial (And.intro (S.hd.free 3 "len" (by kernel_rfl)) (And.intro trivial trivial)))) (And.intro (And.intro trivial (And.intro (S.hd.free 48 "abs" (by kernel_rfl)) (And.intro (And.intro trivial trivial) trivial))) (And.intro (And.intro (And.intro trivial trivial) trivial) (And.intro (And.intro trivial (And.intro (S.hd.free 48 "abs" (by kernel_rfl)) (And.intro (And.intro trivial (And.intro (S.hd.free 49 "sum" (by kernel_rfl)) (And.intro (And.intro trivial (And.intro trivial trivial)) trivial))) trivial))) trivial)))) (And.intro (And.intro (And.intro trivial (And.intro (S.hd.free 17 "max" (by kernel_rfl)) (And.intro trivial (And.intro (And.intro trivial (And.intro trivial trivial)) trivial)))) (And.intro (And.intro (And.intro (And.intro trivial (And.intro (S.hd.free 1 "int" (by kernel_rfl)) (And.intro (And.intro (And.intro (And.intro (And.intro (And.intro trivial (And.intro (S.hd.free 1 "int" (by kernel_rfl)) (And.intro trivial trivial))) trivial) trivial) (And.intro trivial trivial)) trivial) trivial))) trivial) trivial) trivial)) trivial))
theorem f__law_pot (S : Hdp Γ fa fn gs ex) : FnIs Γ s__law_pot e__law_pot (He.fAd Γ.K ("_law_pot", none)) := FnIs.of rfl (by kernel_rfl) (S.hd.fnAt 35 s__law_pot (d := fd__law_pot) (by kernel_rfl) rfl rfl rfl rfl rfl rfl rfl) t__law_pot (n__law_pot S) k__law_pot
abbrev fd_law : He.DefD := ⟨("law", none), "law", "law", defArgs (top 47), defBody (top 47), defScope (top 47), [], []⟩
theorem n_law (S : Hdp Γ fa fn gs ex) : t_law.need Γ := (And.intro (And.intro (Exists.intro _ (And.intro (S.hd.glo 50 "_law_right" (by kernel_rfl)) (f__law_right S))) (And.intro (And.intro (And.intro (Exists.intro _ (And.intro (S.hd.glo 51 "_law_pot" (by kernel_rfl)) (f__law_pot S))) (And.intro (And.intro trivial (And.intro trivial trivial)) trivial)) trivial) trivial)) trivial)
theorem f_law (S : Hdp Γ fa fn gs ex) : FnIs Γ s_law e_law (He.fAd Γ.K ("law", none)) := FnIs.of rfl (by kernel_rfl) (S.hd.fnAt 36 s_law (d := fd_law) (by kernel_rfl) rfl rfl rfl rfl rfl rfl rfl) t_law (n_law S) k_law
end
end Lw
end
section
set_option Elab.async false
set_option linter.all false
set_option maxRecDepth 100000
/-! EvS: the terms' answers as rewriting. -/
namespace Tp
open PySem
def lI (l : List Int) : List D := l.map .int
section
variable {α β : Type} {ρ : Env} {T : Cs}
theorem bind_ok' (a : α) (f : α → Cs → Ev β) : (Ev.ok a T).bind f = f a T := rfl
theorem bind_no (f : α → Cs → Ev β) : (Ev.no : Ev α).bind f = .no := rfl
theorem opt_some (a : α) : Ev.opt (some a) T = .ok a T := rfl
theorem opt_none : Ev.opt (none : Option α) T = .no := rfl
theorem cVar_e (i : Nat) : (cVar i).ev ρ T = Ev.opt (rdVar ρ[i]?) T := rfl
theorem rdVar_sh (d : D) : rdVar (some (some (.sh d))) = some (.v (.sh d)) := rfl
theorem rdVar_ow (d : List D) : rdVar (some (some (.ow d))) = some (.bw d) := rfl
theorem cInt_e (i : Int) : (cInt i).ev ρ T = .ok (.v (.sh (.int i))) T := rfl
theorem cBl_e (i : Bool) : (cBl i).ev ρ T = .ok (.v (.sh (.bl i))) T := rfl
theorem cNon_e : cNon.ev ρ T = .ok (.v (.sh .non)) T := rfl
theorem cStr_e (x : Str) : (cStr x).ev ρ T = .ok (.v (.sh (.str x))) T := rfl
theorem cGInt_e (x : Str) (i : Int) : (cGInt x i).ev ρ T = .ok (.v (.sh (.int i))) T := rfl
theorem cGTup_e (x : Str) (i : List D) : (cGTup x i).ev ρ T = .ok (.v (.sh (.tup i))) T := rfl
theorem cBin_e (o : Op2) (a b : CE) : (cBin o a b).ev ρ T = (a.ev ρ T).bind fun x T1 => (b.ev ρ T1).bind fun y T2 => Ev.opt (o.f [x, y]) T2 := rfl
theorem cCmp_e (o : Cp2) (a b : CE) : (cCmp o a b).ev ρ T = (a.ev ρ T).bind fun x T1 => (b.ev ρ T1).bind fun y T2 => Ev.opt (o.f [x, y]) T2 := rfl
theorem tCmp_e (o : Cp2) (a b : CE) : (tCmp o a b).ev ρ T = ((a.ev ρ T).bind fun x T1 => (b.ev ρ T1).bind fun y T2 => Ev.opt (o.f [x, y]) T2).bind fun x T1 => Ev.opt (rBl x) T1 := rfl
theorem tVal_e (a : CE) : (tVal a).ev ρ T = (a.ev ρ T).bind fun x T1 => Ev.opt (rBl x) T1 := rfl
theorem tNotT_e (a : CT) : (tNotT a).ev ρ T = (a.ev ρ T).bind fun b T1 => .ok (!b) T1 := rfl
theorem rBl_e (b : Bool) : rBl (.v (.sh (.bl b))) = some b := rfl
theorem add_f : oAdd.f = fAdd := rfl
theorem sub_f : oSub.f = iF subI := rfl
theorem mul_f : oMul.f = fMul := rfl
theorem div_f : oDiv.f = iF divI := rfl
theorem mod_f : oMod.f = iF modI := rfl
theorem lt_f : oLt.f = iF ltI := rfl
theorem le_f : oLe.f = iF leI := rfl
theorem gt_f : oGt.f = iF gtI := rfl
theorem ge_f : oGe.f = iF geI := rfl
theorem eq_f : oEq.f = fEq := rfl
theorem ne_f : oNe.f = fNe := rfl
theorem add_i (i j : Int) : fAdd [.v (.sh (.int i)), .v (.sh (.int j))] = some (.v (.sh (.int (i + j)))) := rfl
theorem sub_i (i j : Int) : iF subI [.v (.sh (.int i)), .v (.sh (.int j))] = some (.v (.sh (.int (i - j)))) := rfl
theorem lt_i (i j : Int) : iF ltI [.v (.sh (.int i)), .v (.sh (.int j))] = some (.v (.sh (.bl (decide (i < j))))) := rfl
theorem le_i (i j : Int) : iF leI [.v (.sh (.int i)), .v (.sh (.int j))] = some (.v (.sh (.bl (decide (i ≤ j))))) := rfl
theorem gt_i (i j : Int) : iF gtI [.v (.sh (.int i)), .v (.sh (.int j))] = some (.v (.sh (.bl (decide (j < i))))) := rfl
theorem ge_i (i j : Int) : iF geI [.v (.sh (.int i)), .v (.sh (.int j))] = some (.v (.sh (.bl (decide (j ≤ i))))) := rfl
theorem eq_i (i j : Int) : fEq [.v (.sh (.int i)), .v (.sh (.int j))] = some (.v (.sh (.bl (decide (i = j))))) := rfl
theorem ne_i (i j : Int) : fNe [.v (.sh (.int i)), .v (.sh (.int j))] = some (.v (.sh (.bl (!decide (i = j))))) := rfl
theorem div_i (i : Int) {j : Int} (h : 0 < j) (h2 : j < 1073741824) : iF divI [.v (.sh (.int i)), .v (.sh (.int j))] = some (.v (.sh (.int (i / j)))) := by
  show (divI i j).map _ = _
  unfold divI; rw [if_pos ⟨h, h2⟩]; rfl
theorem mod_i (i : Int) {j : Int} (h : 0 < j) : iF modI [.v (.sh (.int i)), .v (.sh (.int j))] = some (.v (.sh (.int (i % j)))) := by
  show (modI i j).map _ = _
  unfold modI; rw [if_pos h]; rfl
theorem mul_r (i : Int) {j : Int} (h : -18446744073709551616 < j) (h2 : j < 18446744073709551616) : fMul [.v (.sh (.int i)), .v (.sh (.int j))] = some (.v (.sh (.int (i * j)))) := by
  show (mulI i j).map _ = _
  unfold mulI bigB; rw [if_pos (.inr ⟨h, h2⟩)]; rfl
theorem mul_l {i : Int} (j : Int) (h : -18446744073709551616 < i) (h2 : i < 18446744073709551616) : fMul [.v (.sh (.int i)), .v (.sh (.int j))] = some (.v (.sh (.int (i * j)))) := by
  show (mulI i j).map _ = _
  unfold mulI bigB; rw [if_pos (.inl ⟨h, h2⟩)]; rfl
theorem evD_e (a : Env → Cs → Ev R) : evD a ρ T = (a ρ T).bind fun r T1 => Ev.opt (rD r) T1 := rfl
theorem rD_sh (d : D) : rD (.v (.sh d)) = some d := rfl
theorem rD_ow (d : List D) : rD (.v (.ow d)) = some (.lst d) := rfl
theorem dNil_e : dNil.ev ρ T = .ok [] T := rfl
theorem dCons_e (a : CE) (r : CD) : (dCons a r).ev ρ T = (evD a.ev ρ T).bind fun d T1 => (r.ev ρ T1).bind fun ds T2 => .ok (d :: ds) T2 := rfl
theorem aNil_e : aNil.ev ρ T = .ok [] T := rfl
theorem aCons_e (a : CE) (r : CA) : (aCons a r).ev ρ T = (a.ev ρ T).bind fun d T1 => (r.ev ρ T1).bind fun ds T2 => .ok (d :: ds) T2 := rfl
theorem wNil_e : wNil.ev ρ T = .ok [] T := rfl
theorem wCons_e (x : Str) (a : CE) (r : CKw) : (wCons x a r).ev ρ T = (evD a.ev ρ T).bind fun d T1 => (r.ev ρ T1).bind fun ds T2 => .ok (d :: ds) T2 := rfl
theorem cLst_e (d : CD) : (cLst d).ev ρ T = (d.ev ρ T).bind fun ds T1 => Ev.opt (if ds.length ≤ lim then some (.v (.ow ds)) else none) T1 := rfl
theorem cTup_e (d : CD) : (cTup d).ev ρ T = (d.ev ρ T).bind fun ds T1 => Ev.opt (if ds.length ≤ lim then some (.v (.sh (.tup ds))) else none) T1 := rfl
theorem cIx_e (a b : CE) : (cIx a b).ev ρ T = (a.ev ρ T).bind fun x T1 => (b.ev ρ T1).bind fun y T2 => Ev.opt (fIx T2 x y) T2 := rfl
theorem cSlice_e (a : CE) (lo hi : Option CE) : (cSlice a lo hi).ev ρ T = (a.ev ρ T).bind fun x T1 => (evP lo ρ T1).bind fun l T2 => (evP hi ρ T2).bind fun u T3 => Ev.opt (fSl x l u) T3 := rfl
theorem evP_n : evP none ρ T = .ok none T := rfl
def pK (r : R) (T1 : Cs) : Ev (Option Int) := match r with
    | .v (.sh (.int i)) => .ok (some i) T1
    | _ => .no
theorem pK_i (i : Int) : pK (.v (.sh (.int i))) T = .ok (some i) T := rfl
theorem evP_s (a : CE) : evP (some a) ρ T = (a.ev ρ T).bind pK := rfl
theorem cRev_e (a : CE) : (cRev a).ev ρ T = (a.ev ρ T).bind fun x T1 => Ev.opt ((rLs2 x).map fun xs => .v (.ow xs.reverse)) T1 := rfl
theorem rLs2_l (xs : List D) : rLs2 (.v (.sh (.lst xs))) = some xs := rfl
theorem rLs2_f (xs : List D) : rLs2 (.v (.sh (.fz xs))) = some xs := rfl
theorem rLs2_o (xs : List D) : rLs2 (.v (.ow xs)) = some xs := rfl
theorem rLs2_b (xs : List D) : rLs2 (.bw xs) = some xs := rfl
def negK (x : R) : Option R := match x with
    | .v (.sh (.int i)) => some (.v (.sh (.int (-i))))
    | _ => none
theorem cNeg_e (a : CE) : (cNeg a).ev ρ T = (a.ev ρ T).bind fun x T1 => Ev.opt (negK x) T1 := rfl
theorem negK_i (i : Int) : negK (.v (.sh (.int i))) = some (.v (.sh (.int (-i)))) := rfl
theorem tAnd_e (ts : List CT) : (tAnd ts).ev ρ T = andEv ts ρ T := rfl
theorem tOr_e (ts : List CT) : (tOr ts).ev ρ T = orEv ts ρ T := rfl
theorem andEv_1 (a : CT) : andEv [a] ρ T = a.ev ρ T := rfl
theorem andEv_2 (a b : CT) (r : List CT) : andEv (a :: b :: r) ρ T = (a.ev ρ T).bind fun k T1 => if k then andEv (b :: r) ρ T1 else .ok false T1 := rfl
theorem orEv_1 (a : CT) : orEv [a] ρ T = a.ev ρ T := rfl
theorem orEv_2 (a b : CT) (r : List CT) : orEv (a :: b :: r) ρ T = (a.ev ρ T).bind fun k T1 => if k then .ok true T1 else orEv (b :: r) ρ T1 := rfl
theorem cAnd_e (ts : List CE) : (cAnd ts).ev ρ T = andVe ts ρ T := rfl
theorem cOr_e (ts : List CE) : (cOr ts).ev ρ T = orVe ts ρ T := rfl
theorem andVe_1 (a : CE) : andVe [a] ρ T = a.ev ρ T := rfl
def andK (o : Option Bool) (e : Ev R) (T1 : Cs) : Ev R := match o with
    | some true => e
    | some false => .ok (.v (.sh (.bl false))) T1
    | none => .no
theorem andVe_2 (a b : CE) (r : List CE) : andVe (a :: b :: r) ρ T = (a.ev ρ T).bind fun x T1 => andK (rBl x) (andVe (b :: r) ρ T1) T1 := rfl
theorem andK_t (e : Ev R) : andK (some true) e T = e := rfl
theorem andK_f (e : Ev R) : andK (some false) e T = .ok (.v (.sh (.bl false))) T := rfl
theorem andK_b (b : Bool) (e : Ev R) : andK (some b) e T = if b = true then e else .ok (.v (.sh (.bl false))) T := by cases b <;> rfl
theorem orVe_1 (a : CE) : orVe [a] ρ T = a.ev ρ T := rfl
def orK (o : Option Bool) (e : Ev R) (T1 : Cs) : Ev R := match o with
    | some true => .ok (.v (.sh (.bl true))) T1
    | some false => e
    | none => .no
theorem orVe_2 (a b : CE) (r : List CE) : orVe (a :: b :: r) ρ T = (a.ev ρ T).bind fun x T1 => orK (rBl x) (orVe (b :: r) ρ T1) T1 := rfl
theorem orK_b (b : Bool) (e : Ev R) : orK (some b) e T = if b = true then .ok (.v (.sh (.bl true))) T else e := by cases b <;> rfl
theorem cIte_e (c : CT) (a b : CE) : (cIte c a b).ev ρ T = (c.ev ρ T).bind fun k T1 => if k then a.ev ρ T1 else b.ev ρ T1 := rfl
theorem cNot_e (a : CE) : (cNot a).ev ρ T = (a.ev ρ T).bind fun x T1 => Ev.opt ((rBl x).map fun k => .v (.sh (.bl (!k)))) T1 := rfl
theorem cBlt_e (b : Blt) (a : CA) : (cBlt b a).ev ρ T = (a.ev ρ T).bind fun rs T1 => Ev.opt (b.f rs) T1 := rfl
theorem sEnd_e : sEnd.ev ρ T = .ok (.nx ρ) T := rfl
theorem sSeq_e (a : C1) (r : CS) : (sSeq a r).ev ρ T = (a.ev ρ T).bind fun f T1 => thenS f r.ev T1 := rfl
theorem thenS_nx (r : Env → Cs → Ev Fl) : thenS (.nx ρ) r T = r ρ T := rfl
theorem thenS_rt (lv : LV) (r : Env → Cs → Ev Fl) : thenS (.rt lv) r T = .ok (.rt lv) T := rfl
theorem thenS_bk (r : Env → Cs → Ev Fl) : thenS (.bk ρ) r T = .ok (.bk ρ) T := rfl
theorem thenS_ct (r : Env → Cs → Ev Fl) : thenS (.ct ρ) r T = .ok (.ct ρ) T := rfl
theorem sForget_e (is : List Nat) (r : CS) : (sForget is r).ev ρ T = r.ev (forget ρ is) T := rfl
def frzK (r : Env → Cs → Ev Fl) (i : Nat) (ρ : Env) (T : Cs) (o : Option (Option LV)) : Ev Fl := match o with
    | some (some lv) => (match frzLV lv with
      | some lv' => r (ρ.set i (some lv')) T
      | none => .no)
    | _ => .no
theorem sFrz_e (i : Nat) (r : CS) : (sFrz i r).ev ρ T = frzK r.ev i ρ T (ρ[i]?) := rfl
theorem frzK_o (r : Env → Cs → Ev Fl) (i : Nat) (xs : List D) : frzK r i ρ T (some (some (.ow xs))) = r (ρ.set i (some (.sh (.lst xs)))) T := rfl
theorem frzK_s (r : Env → Cs → Ev Fl) (i : Nat) (d : D) : frzK r i ρ T (some (some (.sh d))) = r (ρ.set i (some (.sh d))) T := rfl
theorem frz_ow (xs : List D) : frzLV (.ow xs) = some (.sh (.lst xs)) := rfl
theorem frz_sh (d : D) : frzLV (.sh d) = some (.sh d) := rfl
def asgK (i : Nat) (ρ : Env) (o : Option LV) (T1 : Cs) : Ev Fl := match o with
    | some lv => if i < ρ.length then .ok (.nx (ρ.set i (some lv))) T1 else .no
    | none => .no
theorem sAsg_e (i : Nat) (keep : Bool) (a : CE) : (sAsg i keep a).ev ρ T = (a.ev ρ T).bind fun r T1 => asgK i ρ (asLV keep r) T1 := rfl
theorem asgK_s (i : Nat) (lv : LV) : asgK i ρ (some lv) T = if i < ρ.length then .ok (.nx (ρ.set i (some lv))) T else .no := rfl
theorem asLV_k (lv : LV) : asLV true (.v lv) = some lv := rfl
theorem asLV_s (d : D) : asLV false (.v (.sh d)) = some (.sh d) := rfl
theorem asLV_o (xs : List D) : asLV false (.v (.ow xs)) = some (.sh (.lst xs)) := rfl
def retK (o : Option LV) (T1 : Cs) : Ev Fl := match o with
    | some lv => .ok (.rt lv) T1
    | none => .no
theorem sRet_e (a : CE) : (sRet a).ev ρ T = (a.ev ρ T).bind fun r T1 => retK (retLV r) T1 := rfl
theorem retK_s (lv : LV) : retK (some lv) T = .ok (.rt lv) T := rfl
theorem retLV_s (d : D) : retLV (.v (.sh d)) = some (.sh d) := rfl
theorem retLV_o (xs : List D) : retLV (.v (.ow xs)) = some (.ow xs) := rfl
theorem retLV_b (xs : List D) : retLV (.bw xs) = some (.ow xs) := rfl
theorem sPass_e : sPass.ev ρ T = .ok (.nx ρ) T := rfl
theorem sExpr_e (a : CE) : (sExpr a).ev ρ T = (a.ev ρ T).bind fun _ T1 => .ok (.nx ρ) T1 := rfl
theorem sIf_e (c : CT) (a b : CS) : (sIf c a b).ev ρ T = (c.ev ρ T).bind fun k T1 => if k then a.ev ρ T1 else b.ev ρ T1 := rfl
theorem sWhile_e (m : Nat) (c : CT) (b : CS) : (sWhile m c b).ev ρ T = whileEv c.ev b.ev m ρ T := rfl
def appK (i : Nat) (a : CE) (ρ : Env) (T : Cs) (o : Option (Option LV)) : Ev Fl := match o with
    | some (some (.ow xs)) => (evD a.ev ρ T).bind fun d T1 => if xs.length < lim then .ok (.nx (ρ.set i (some (.ow (xs ++ [d]))))) T1 else .no
    | _ => .no
theorem sAppend_e (i : Nat) (a : CE) : (sAppend i a).ev ρ T = appK i a ρ T (ρ[i]?) := rfl
theorem appK_o (i : Nat) (a : CE) (xs : List D) : appK i a ρ T (some (some (.ow xs))) = (evD a.ev ρ T).bind fun d T1 => if xs.length < lim then .ok (.nx (ρ.set i (some (.ow (xs ++ [d]))))) T1 else .no := rfl
theorem gNm_e (i : Nat) (d : D) : (gNm i).ev d ρ T = if i < ρ.length then .ok (ρ.set i (some (.sh d))) T else .no := rfl
def gixK (j : Nat) (a : CE) (d : D) (ρ : Env) (T : Cs) (o : Option (Option LV)) : Ev Env := match o with
    | some (some (.ow xs)) => (a.ev ρ T).bind fun r T1 => (match setAt xs r d with
      | some ys => .ok (ρ.set j (some (.ow ys))) T1
      | none => .no)
    | some (some (.sh (.cell m))) => (a.ev ρ T).bind fun r T1 => (match T1[m]? with
      | some xs => (match setAt xs r d with
        | some ys => .ok ρ (T1.set m ys)
        | none => .no)
      | none => .no)
    | _ => .no
theorem gIx_e (j : Nat) (a : CE) (d : D) : (gIx j a).ev d ρ T = gixK j a d ρ T (ρ[j]?) := rfl
def gixO (j : Nat) (ρ : Env) (o : Option (List D)) (T1 : Cs) : Ev Env := match o with
  | some ys => .ok (ρ.set j (some (.ow ys))) T1
  | none => .no
def gixC (m : Nat) (d : D) (r : R) (ρ : Env) (T1 : Cs) (o : Option (List D)) : Ev Env := match o with
  | some xs => (match setAt xs r d with
        | some ys => .ok ρ (T1.set m ys)
        | none => .no)
  | none => .no
theorem gixK_o (j : Nat) (a : CE) (d : D) (xs : List D) : gixK j a d ρ T (some (some (.ow xs))) = (a.ev ρ T).bind fun r T1 => gixO j ρ (setAt xs r d) T1 := rfl
theorem gixK_c (j : Nat) (a : CE) (d : D) (m : Nat) : gixK j a d ρ T (some (some (.sh (.cell m)))) = (a.ev ρ T).bind fun r T1 => gixC m d r ρ T1 (T1[m]?) := rfl
theorem gixO_s (j : Nat) (ys : List D) : gixO j ρ (some ys) T = .ok (ρ.set j (some (.ow ys))) T := rfl
theorem gixC_s (m : Nat) (d : D) (r : R) (xs ys : List D) (h : setAt xs r d = some ys) : gixC m d r ρ T (some xs) = .ok ρ (T.set m ys) := by simp only [gixC, h]
theorem gTp_e (gs : List CG) (ds : List D) : (gTp gs).ev (.tup ds) ρ T = if ds.length = gs.length then evGs gs ds ρ T else .no := rfl
theorem evGs_n : evGs [] [] ρ T = .ok ρ T := rfl
theorem evGs_c (g : CG) (gs : List CG) (d : D) (ds : List D) : evGs (g :: gs) (d :: ds) ρ T = (g.ev d ρ T).bind fun ρ1 T1 => evGs gs ds ρ1 T1 := rfl
theorem sAsgG_e (t : CG) (a : CE) : (sAsgG t a).ev ρ T = (evD a.ev ρ T).bind fun d T1 => (t.ev d ρ T1).bind fun ρ' T2 => .ok (.nx ρ') T2 := rfl
theorem kNil_e : kNil.ev ρ T = .ok [] T := rfl
def konK (o : Option LV) (e : Ev (List LV)) : Ev (List LV) := match o with
    | some lv => e.bind fun ls T2 => .ok (lv :: ls) T2
    | none => .no
theorem kCons_e (keep : Bool) (a : CE) (r : CK) : (kCons keep a r).ev ρ T = (a.ev ρ T).bind fun x T1 => konK (asLV keep x) (r.ev ρ T1) := rfl
theorem konK_s (lv : LV) (e : Ev (List LV)) : konK (some lv) e = e.bind fun ls T2 => .ok (lv :: ls) T2 := rfl
theorem sPar_e (is : List Nat) (c : CK) : (sPar is c).ev ρ T = (c.ev ρ T).bind fun ls T1 => if is.all fun i => decide (i < ρ.length) then .ok (.nx (setAll ρ is ls)) T1 else .no := rfl
theorem sParT_e (is : List Nat) (c : CK) : (sParT is c).ev ρ T = (c.ev ρ T).bind fun ls T1 => if is.all fun i => decide (i < ρ.length) then .ok (.nx (setAll ρ is ls)) T1 else .no := rfl
theorem setAll_c {α : Type} (σ : List (Option α)) (i : Nat) (is : List Nat) (v : α) (vs : List α) : setAll σ (i :: is) (v :: vs) = setAll (σ.set i (some v)) is vs := rfl
theorem setAll_n {α : Type} (σ : List (Option α)) : setAll σ [] [] = σ := rfl
theorem sFor_e (t : CG) (i : CI) (b : CS) : (sFor t i b).ev ρ T = (i.ev ρ T).bind fun ds T1 => forEv t.ev b.ev ds ρ T1 := rfl
theorem iLst_e (a : CE) : (iLst a).ev ρ T = (evD a.ev ρ T).bind fun d T1 => Ev.opt (dLst d) T1 := rfl
theorem dLst_l (xs : List D) : dLst (.lst xs) = some xs := rfl
theorem dLst_f (xs : List D) : dLst (.fz xs) = some xs := rfl
theorem bnd62_t {i : Int} (h1 : -4611686018427387904 ≤ i) (h2 : i < 4611686018427387904) : bnd62 i = true := by unfold bnd62; simp [h1, h2]
def rn1 (r : R) : Option (List D) := match r with
  | .v (.sh (.int j)) => if bnd62 j then some (rangeD 0 1 j.toNat) else none
  | _ => none
def rn2 (r r2 : R) : Option (List D) := match r, r2 with
  | .v (.sh (.int i)), .v (.sh (.int j)) => if bnd62 i && bnd62 j then some (rangeD i 1 (j - i).toNat) else none
  | _, _ => none
def rn3 (r r2 r3 : R) : Option (List D) := match r, r2, r3 with
  | .v (.sh (.int i)), .v (.sh (.int j)), .v (.sh (.int l)) => rng3 i j l
  | _, _, _ => none
theorem rn1_i {j : Int} (h1 : -4611686018427387904 ≤ j) (h2 : j < 4611686018427387904) : rn1 (.v (.sh (.int j))) = some (rangeD 0 1 j.toNat) := if_pos (bnd62_t h1 h2)
theorem rn2_i {i j : Int} (h1 : -4611686018427387904 ≤ j) (h2 : j < 4611686018427387904) (h3 : -4611686018427387904 ≤ i) (h4 : i < 4611686018427387904) : rn2 (.v (.sh (.int i))) (.v (.sh (.int j))) = some (rangeD i 1 (j - i).toNat) := if_pos (by rw [bnd62_t h1 h2, bnd62_t h3 h4]; rfl)
theorem rn3_i {i j : Int} (h1 : -4611686018427387904 ≤ j) (h2 : j < 4611686018427387904) (h3 : -4611686018427387904 ≤ i) (h4 : i < 4611686018427387904) : rn3 (.v (.sh (.int i))) (.v (.sh (.int j))) (.v (.sh (.int (-1)))) = some (rangeD i (-1) (i - j).toNat) := by
  show rng3 i j (-1) = _
  unfold rng3
  rw [if_pos (by rw [bnd62_t h1 h2, bnd62_t h3 h4]; rfl), if_pos rfl]
theorem iRange1_e (a : CE) : (iRange1 a).ev ρ T = (a.ev ρ T).bind fun r T1 => Ev.opt (rn1 r) T1 := rfl
theorem iRange2_e (a b : CE) : (iRange2 a b).ev ρ T = (a.ev ρ T).bind fun r T1 => (b.ev ρ T1).bind fun r2 T2 => Ev.opt (rn2 r r2) T2 := rfl
theorem iRange3_e (a b c : CE) : (iRange3 a b c).ev ρ T = (a.ev ρ T).bind fun r T1 => (b.ev ρ T1).bind fun r2 T2 => (c.ev ρ T2).bind fun r3 T3 => Ev.opt (rn3 r r2 r3) T3 := rfl
def zipK (a b : Option (List D)) : Option (List D) := match a, b with
    | some xs, some ys => some (zipD xs ys)
    | _, _ => none
theorem iZip2_e (a b : CE) : (iZip2 a b).ev ρ T = (evD a.ev ρ T).bind fun x T1 => (evD b.ev ρ T1).bind fun y T2 => Ev.opt (zipK (dLst x) (dLst y)) T2 := rfl
theorem zipK_s (xs ys : List D) : zipK (some xs) (some ys) = some (zipD xs ys) := rfl
def chK (o : Option Bool) (e : Ev R) (T2 : Cs) : Ev R := match o with
  | some true => e
  | some false => .ok (.v (.sh (.bl false))) T2
  | none => .no
theorem tChn_e (o o' : Cp2) (a b c : CE) : (tChn o o' a b c).ev ρ T = ((a.ev ρ T).bind fun x T1 => (b.ev ρ T1).bind fun y T2 => chK ((o.f [x, y]).bind rBl) ((c.ev ρ T2).bind fun z T3 => Ev.opt (o'.f [y, z]) T3) T2).bind fun x T1 => Ev.opt (rBl x) T1 := rfl
theorem cChain_e (o o' : Cp2) (a b c : CE) : (cChain o o' a b c).ev ρ T = (a.ev ρ T).bind fun x T1 => (b.ev ρ T1).bind fun y T2 => chK ((o.f [x, y]).bind rBl) ((c.ev ρ T2).bind fun z T3 => Ev.opt (o'.f [y, z]) T3) T2 := rfl
theorem chK_b (b : Bool) (e : Ev R) : chK (some b) e T = if b = true then e else .ok (.v (.sh (.bl false))) T := by cases b <;> rfl
def popLD (j i : Nat) (ρ : Env) (T : Cs) (xs : List D) (o : Option D) : Ev Fl := match o with
  | some y => if j < ρ.length then .ok (.nx ((ρ.set i (some (.ow xs.dropLast))).set j (some (.sh y)))) T else .no
  | none => .no
theorem sPopLast_e (j i : Nat) : (sPopLast j i).ev ρ T = popLK j i ρ T (ρ[i]?) := rfl
theorem popLK_o (j i : Nat) (xs : List D) : popLK j i ρ T (some (some (.ow xs))) = popLD j i ρ T xs (xs[xs.length - 1]?) := by
  show (match popL j i ρ xs with
    | some ρ' => Ev.ok (Fl.nx ρ') T
    | none => .no) = _
  unfold popL popLD
  cases xs[xs.length - 1]? with
  | none => split <;> simp_all
  | some y => split <;> simp_all
theorem popLD_s (j i : Nat) (xs : List D) (y : D) : popLD j i ρ T xs (some y) = if j < ρ.length then .ok (.nx ((ρ.set i (some (.ow xs.dropLast))).set j (some (.sh y)))) T else .no := rfl
theorem rdVar_od (kvs : List (L2.Key × D)) : rdVar (some (some (.od kvs))) = some (.bd kvs) := rfl
theorem retLV_bd (kvs : List (L2.Key × D)) : retLV (.bd kvs) = some (.od kvs) := rfl
theorem retLV_od (kvs : List (L2.Key × D)) : retLV (.v (.od kvs)) = some (.od kvs) := rfl
theorem toR_d (kvs : List (L2.Key × D)) : toR (.od kvs) = some (.v (.od kvs)) := rfl
theorem cDnew_e : cDnew.ev ρ T = .ok (.v (.od [])) T := rfl
theorem cLock_e (a : CE) : (cLock a).ev ρ T = (a.ev ρ T).bind fun r T1 => Ev.opt (lockR r) T1 := rfl
theorem lockR_o (kvs : List (L2.Key × D)) : lockR (.v (.od kvs)) = some (.v (.sh (.dct kvs))) := rfl
theorem lockR_s (kvs : List (L2.Key × D)) : lockR (.v (.sh (.dct kvs))) = some (.v (.sh (.dct kvs))) := rfl
theorem cDget_e (a b : CE) : (cDget a b).ev ρ T = (a.ev ρ T).bind fun x T1 => (b.ev ρ T1).bind fun y T2 => Ev.opt (fDget x y) T2 := rfl
theorem fDget_i (kvs : List (L2.Key × D)) (i : Int) : fDget (.v (.sh (.dct kvs))) (.v (.sh (.int i))) = (getK kvs (kI i)).map fun d => .v (.sh d) := rfl
def dputE (i : Nat) (ρ : Env) (kvs : List (L2.Key × D)) (d : D) (T2 : Cs) (k : R) : Ev Fl := match k with
  | .v (.sh (.int m)) => if kvs.length < lim then .ok (.nx (ρ.set i (some (.od (putD kvs (kI m) d))))) T2 else .no
  | _ => .no
def dputK (i : Nat) (b a : CE) (ρ : Env) (T : Cs) (o : Option (Option LV)) : Ev Fl := match o with
  | some (some (.od kvs)) => (evD a.ev ρ T).bind fun d T1 => (b.ev ρ T1).bind fun k T2 => dputE i ρ kvs d T2 k
  | _ => .no
theorem sDput_e (i : Nat) (b a : CE) : (sDput i b a).ev ρ T = dputK i b a ρ T (ρ[i]?) := rfl
theorem dputK_o (i : Nat) (b a : CE) (kvs : List (L2.Key × D)) : dputK i b a ρ T (some (some (.od kvs))) = (evD a.ev ρ T).bind fun d T1 => (b.ev ρ T1).bind fun k T2 => dputE i ρ kvs d T2 k := rfl
theorem dputE_i (i : Nat) (kvs : List (L2.Key × D)) (d : D) (m : Int) : dputE i ρ kvs d T (.v (.sh (.int m))) = if kvs.length < lim then .ok (.nx (ρ.set i (some (.od (putD kvs (kI m) d))))) T else .no := rfl
theorem cSortDR_e (a : CE) : (cSortDR a).ev ρ T = (a.ev ρ T).bind fun r T1 => Ev.opt (gSortDR r) T1 := rfl
theorem lenD_s (kvs : List (L2.Key × D)) : bLenD.f [.v (.sh (.dct kvs))] = some (.v (.sh (.int kvs.length))) := rfl
def dkD : D → Option (List D)
  | .dct kvs => some (kvs.map fun kv => keyD kv.1)
  | _ => none
theorem iDK_e (a : CE) : (iDK a).ev ρ T = (evD a.ev ρ T).bind fun d T1 => Ev.opt (dkD d) T1 := rfl
theorem dkD_d (kvs : List (L2.Key × D)) : dkD (.dct kvs) = some (kvs.map fun kv => keyD kv.1) := rfl
def objK (neg : Bool) (c : Nat) (ev : FEv) (T2 : Cs) (d e : D) : Ev R := match d, e with
  | .obj c1 xs, .obj c2 ys => if c1 = c ∧ c2 = c then (match ev [.obj c xs, .obj c ys] T2 with
    | .ok (.sh (.bl r)) T3 => .ok (.v (.sh (.bl (if neg then !r else r)))) T3
    | _ => .no) else .no
  | _, _ => .no
theorem cObjEq_e (neg : Bool) (c : Nat) (s : DefSig) (ev : FEv) (a b : CE) {sr : List Src} (B : BindOk s 2 [] sr) : (cObjEq neg c s ev a b B).ev ρ T = (evD a.ev ρ T).bind fun d T1 => (evD b.ev ρ T1).bind fun e T2 => objK neg c ev T2 d e := rfl
theorem tObjEq_e (neg : Bool) (c : Nat) (s : DefSig) (ev : FEv) (a b : CE) {sr : List Src} (B : BindOk s 2 [] sr) : (tObjEq neg c s ev a b B).ev ρ T = ((evD a.ev ρ T).bind fun d T1 => (evD b.ev ρ T1).bind fun e T2 => objK neg c ev T2 d e).bind fun x T1 => Ev.opt (rBl x) T1 := rfl
theorem objK_o {neg : Bool} {c : Nat} {ev : FEv} {xs ys : List D} {r : Bool} {T3 : Cs} (h : ev [.obj c xs, .obj c ys] T = .ok (.sh (.bl r)) T3) : objK neg c ev T (.obj c xs) (.obj c ys) = .ok (.v (.sh (.bl (if neg then !r else r)))) T3 := by
  show (if c = c ∧ c = c then (match ev [.obj c xs, .obj c ys] T with
    | .ok (.sh (.bl r)) T3 => Ev.ok (R.v (.sh (.bl (if neg then !r else r)))) T3
    | _ => .no) else .no) = _
  rw [if_pos ⟨rfl, rfl⟩, h]
theorem sMove_e (i j : Nat) : (sMove i j).ev ρ T = movK i j ρ T (ρ[j]?) := rfl
theorem movK_o (i j : Nat) (xs : List D) : movK i j ρ T (some (some (.ow xs))) = if i < ρ.length then .ok (.nx ((ρ.set j none).set i (some (.ow xs)))) T else .no := rfl
theorem iZip3_e (a b : CE) : (iZip3 a b).ev ρ T = (evD a.ev ρ T).bind fun x T1 => (evD b.ev ρ T1).bind fun y T2 => Ev.opt (zipS x y) T2 := rfl
theorem zipS_ll (xs ys : List D) : zipS (.lst xs) (.lst ys) = some (zipD xs ys) := rfl
theorem zipS_lt (xs ys : List D) : zipS (.lst xs) (.tup ys) = some (zipD xs ys) := rfl
theorem cLRg1_e (a : CE) : (cLRg1 a).ev ρ T = (a.ev ρ T).bind fun x T1 => Ev.opt (lrg1 x) T1 := rfl
theorem iEnum1_e (a : CE) : (iEnum1 a).ev ρ T = (evD a.ev ρ T).bind fun x T1 => Ev.opt ((dLst x).map (enumD 0)) T1 := rfl
theorem cLc_e (t : CG) (i : CI) (c : Option CT) (e : CE) (own : List (Str × Nat)) : (cLc t i c e own).ev ρ T = ((i.ev ρ T).bind fun ds T1 => noX (lcEv t.ev (evC c) (evD e.ev) (forget ρ (own.map (·.2))) ds T1)).bind fun out T2 => Ev.opt (if out.length ≤ lim then some (.v (.ow out)) else none) T2 := rfl
theorem sAsgLc_e (j : Nat) (keep : Bool) (t : CG) (i : CI) (c : Option CT) (e : CE) (own : List (Str × Nat)) : (sAsgLc j keep t i c e own).ev ρ T = (((i.ev ρ T).bind fun ds T1 => noX (lcEv t.ev (evC c) (evD e.ev) (forget ρ (own.map (·.2))) ds T1)).bind fun out T2 => Ev.opt (if out.length ≤ lim then some (.v (.ow out)) else none) T2).bind fun r T1 => asgK j ρ (asLV keep r) T1 := rfl
theorem noX_ok (a : α) : noX (.ok a T) = .ok a T := rfl
theorem evC_n : evC none ρ T = .ok true T := rfl
theorem evC_s (c : CT) : evC (some c) ρ T = c.ev ρ T := rfl
theorem cCall_e (s : DefSig) (ev : FEv) (a : CD) (b : CKw) (srcs : List Src) {nn : Nat} {kk : List Str} (B : BindOk s nn kk srcs) : (cCall s ev a b srcs B).ev ρ T = (a.ev ρ T).bind fun ds T1 => (b.ev ρ T1).bind fun es T2 => (ev (sel .non (ds ++ es) s.dfl srcs) T2).bind fun lv T3 => Ev.opt (toR lv) T3 := rfl
theorem cCallK_e (s : DefSig) (ev : FEv) (b : CKw) (srcs : List Src) {kk : List Str} (B : BindOk s 0 kk srcs) : (cCallK s ev b srcs B).ev ρ T = (b.ev ρ T).bind fun es T2 => (ev (sel .non es s.dfl srcs) T2).bind fun lv T3 => Ev.opt (toR lv) T3 := rfl
theorem sel_a {γ : Type} (z : γ) (v d : List γ) (i : Nat) (r : List Src) : sel z v d (.a i :: r) = v.getD i z :: sel z v d r := rfl
theorem sel_d {γ : Type} (z : γ) (v d : List γ) (i : Nat) (r : List Src) : sel z v d (.d i :: r) = d.getD i z :: sel z v d r := rfl
theorem sel_n {γ : Type} (z : γ) (v d : List γ) : sel z v d [] = [] := rfl
theorem toR_s (d : D) : toR (.sh d) = some (.v (.sh d)) := rfl
theorem toR_o (d : List D) : toR (.ow d) = some (.v (.ow d)) := rfl
def cellK (r : R) (T1 : Cs) : Ev R := match r with
    | .v (.ow xs) => .ok (.v (.sh (.cell T1.length))) (T1 ++ [xs])
    | _ => .no
theorem cCell_e (a : CE) : (cCell a).ev ρ T = (a.ev ρ T).bind cellK := rfl
theorem cellK_o (xs : List D) : cellK (.v (.ow xs)) T = .ok (.v (.sh (.cell T.length))) (T ++ [xs]) := rfl
def fldR (own : List Nat) (f : Str) (r : R) : Option R := match r with
    | .v (.sh (.obj c xs)) => if c ∈ own then (fldD f r).map fun d => .v (.sh d) else none
    | _ => none
theorem cFld_e (own : List Nat) (f : Str) (a : CE) : (cFld own f a).ev ρ T = (a.ev ρ T).bind fun r T1 => Ev.opt (fldR own f r) T1 := rfl
def finK (f : Fl) (T1 : Cs) : Ev LV := match f with
  | .rt (.sh d) => .ok (.sh d) T1
  | .rt (.ow xs) => .ok (.ow xs) T1
  | .rt (.od xs) => .ok (.od xs) T1
  | .nx _ => .ok (.sh .non) T1
  | _ => .no
theorem finK_s (d : D) : finK (.rt (.sh d)) T = .ok (.sh d) T := rfl
theorem finK_o (d : List D) : finK (.rt (.ow d)) T = .ok (.ow d) T := rfl
theorem finK_d (d : List (L2.Key × D)) : finK (.rt (.od d)) T = .ok (.od d) T := rfl
theorem finK_n : finK (.nx ρ) T = .ok (.sh .non) T := rfl
theorem defEv_e (m N : Nat) (b : Env → Cs → Ev Fl) (ds : List D) (h : ds.length = m) : defEv m N b ds T = (b (ds.map (fun d => some (.sh d)) ++ List.replicate (N - m) none) T).bind finK := by unfold defEv; rw [if_pos h]; rfl
theorem defEv_1 (N : Nat) (bb : Env → Cs → Ev Fl) (a : D) : defEv 1 N bb [a] T = (bb ([some (.sh a)] ++ List.replicate (N - 1) none) T).bind finK := defEv_e 1 N bb _ rfl
theorem defEv_2 (N : Nat) (bb : Env → Cs → Ev Fl) (a b : D) : defEv 2 N bb [a, b] T = (bb ([some (.sh a), some (.sh b)] ++ List.replicate (N - 2) none) T).bind finK := defEv_e 2 N bb _ rfl
theorem defEv_3 (N : Nat) (bb : Env → Cs → Ev Fl) (a b c : D) : defEv 3 N bb [a, b, c] T = (bb ([some (.sh a), some (.sh b), some (.sh c)] ++ List.replicate (N - 3) none) T).bind finK := defEv_e 3 N bb _ rfl
theorem defEv_4 (N : Nat) (bb : Env → Cs → Ev Fl) (a b c d : D) : defEv 4 N bb [a, b, c, d] T = (bb ([some (.sh a), some (.sh b), some (.sh c), some (.sh d)] ++ List.replicate (N - 4) none) T).bind finK := defEv_e 4 N bb _ rfl
theorem defEv_5 (N : Nat) (bb : Env → Cs → Ev Fl) (a b c d e : D) : defEv 5 N bb [a, b, c, d, e] T = (bb ([some (.sh a), some (.sh b), some (.sh c), some (.sh d), some (.sh e)] ++ List.replicate (N - 5) none) T).bind finK := defEv_e 5 N bb _ rfl
theorem defEv_6 (N : Nat) (bb : Env → Cs → Ev Fl) (a b c d e f : D) : defEv 6 N bb [a, b, c, d, e, f] T = (bb ([some (.sh a), some (.sh b), some (.sh c), some (.sh d), some (.sh e), some (.sh f)] ++ List.replicate (N - 6) none) T).bind finK := defEv_e 6 N bb _ rfl
theorem defEv_7 (N : Nat) (bb : Env → Cs → Ev Fl) (a b c d e f g : D) : defEv 7 N bb [a, b, c, d, e, f, g] T = (bb ([some (.sh a), some (.sh b), some (.sh c), some (.sh d), some (.sh e), some (.sh f), some (.sh g)] ++ List.replicate (N - 7) none) T).bind finK := defEv_e 7 N bb _ rfl
theorem defEv_8 (N : Nat) (bb : Env → Cs → Ev Fl) (a b c d e f g h : D) : defEv 8 N bb [a, b, c, d, e, f, g, h] T = (bb ([some (.sh a), some (.sh b), some (.sh c), some (.sh d), some (.sh e), some (.sh f), some (.sh g), some (.sh h)] ++ List.replicate (N - 8) none) T).bind finK := defEv_e 8 N bb _ rfl
theorem defEv_9 (N : Nat) (bb : Env → Cs → Ev Fl) (a b c d e f g h i : D) : defEv 9 N bb [a, b, c, d, e, f, g, h, i] T = (bb ([some (.sh a), some (.sh b), some (.sh c), some (.sh d), some (.sh e), some (.sh f), some (.sh g), some (.sh h), some (.sh i)] ++ List.replicate (N - 9) none) T).bind finK := defEv_e 9 N bb _ rfl
theorem defEv_0 (N : Nat) (bb : Env → Cs → Ev Fl) : defEv 0 N bb [] T = (bb (List.replicate (N - 0) none) T).bind finK := defEv_e 0 N bb _ rfl
def popK (i : Nat) (ρ : Env) (T : Cs) (o : Option (Option LV)) : Ev Fl := match o with
    | some (some (.ow xs)) => if xs.length = 0 then .no else .ok (.nx (ρ.set i (some (.ow xs.dropLast)))) T
    | _ => .no
theorem sPop_e (i : Nat) : (sPop i).ev ρ T = popK i ρ T (ρ[i]?) := rfl
theorem popK_o (i : Nat) (xs : List D) : popK i ρ T (some (some (.ow xs))) = if xs.length = 0 then .no else .ok (.nx (ρ.set i (some (.ow xs.dropLast)))) T := rfl
def borQ {γ : Type} (okb : γ → Bool) (ev : Env → Cs → Ev γ) (i : Nat) (ρ : Env) (T : Cs) (o : Option (Option LV)) : Ev γ := match o with
    | some (some lv) => (match frzLV lv with
      | some lv' => borK okb T.length (ev (ρ.set i (some lv')) T)
      | none => .no)
    | _ => .no
theorem evBor_q {γ : Type} (okb : γ → Bool) (ev : Env → Cs → Ev γ) (i : Nat) : evBor i okb ev ρ T = borQ okb ev i ρ T (ρ[i]?) := by
  unfold evBor borE borQ
  cases ρ[i]? with
  | none => rfl
  | some o => cases o with
    | none => rfl
    | some lv =>
      show (match (match frzLV lv with
        | some lv' => some (ρ.set i (some lv'))
        | none => none) with
        | some ρ' => borK okb T.length (ev ρ' T)
        | none => .no) = (match frzLV lv with
        | some lv' => borK okb T.length (ev (ρ.set i (some lv')) T)
        | none => .no)
      cases frzLV lv <;> rfl
theorem cBor_e (i : Nat) (a : CE) : (cBor i a).ev ρ T = borQ okBor a.ev i ρ T (ρ[i]?) := evBor_q _ _ i
theorem tBor_e (i : Nat) (a : CT) : (tBor i a).ev ρ T = borQ (fun _ => true) a.ev i ρ T (ρ[i]?) := evBor_q _ _ i
theorem borQ_o {γ : Type} (okb : γ → Bool) (ev : Env → Cs → Ev γ) (i : Nat) (xs : List D) : borQ okb ev i ρ T (some (some (.ow xs))) = borK okb T.length (ev (ρ.set i (some (.sh (.lst xs)))) T) := rfl
theorem borQ_s {γ : Type} (okb : γ → Bool) (ev : Env → Cs → Ev γ) (i : Nat) (d : D) : borQ okb ev i ρ T (some (some (.sh d))) = borK okb T.length (ev (ρ.set i (some (.sh d))) T) := rfl
theorem borK_1 {γ : Type} {okb : γ → Bool} {r : γ} {ds : List D} (h : okb r = true) (h2 : ds.all flatD = true) : borK okb 1 (.ok r [ds]) = .ok r [ds] := by
  show (if okb r && flatCs ([ds].take 1) then Ev.ok r ([ds].take 1) else .no) = _
  have e : flatCs ([ds].take 1) = true := by
    show (ds.all flatD && true) = true
    rw [h2]; rfl
  rw [h, e]; rfl
theorem iSeq_e (a : CE) : (iSeq a).ev ρ T = (evD a.ev ρ T).bind fun d T1 => Ev.opt (seqD d) T1 := rfl
theorem seqD_t (xs : List D) : seqD (.tup xs) = some xs := rfl
theorem seqD_l (xs : List D) : seqD (.lst xs) = some xs := rfl
theorem seqD_f (xs : List D) : seqD (.fz xs) = some xs := rfl
theorem le_lim {n : Nat} (h : n ≤ 1000000) : (n ≤ 1000000) = True := eq_true h
theorem lt_lim {n : Nat} (h : n < 1000000) : (n < 1000000) = True := eq_true h
theorem lenI (l : List Int) : (l.map D.int).length = l.length := List.length_map _
/-! ### lists of ints -/
theorem lI_len (l : List Int) : (lI l).length = l.length := List.length_map _
theorem lI_nil : lI [] = [] := rfl
theorem lI_app (a b : List Int) : lI (a ++ b) = lI a ++ lI b := List.map_append
theorem lI_one (a : Int) : [D.int a] = lI [a] := rfl
/-! ### walks -/
theorem for_inv {g : D → Env → Cs → Ev Env} {b : Env → Cs → Ev Fl} (P : List D → Env → Cs → Prop) (step : ∀ d ds ρ T, P (d :: ds) ρ T → ∃ ρ' T', ((g d ρ T).bind fun ρ1 T1 => b ρ1 T1) = .ok (.nx ρ') T' ∧ P ds ρ' T') :
    ∀ ds ρ T, P ds ρ T → ∃ ρ' T', forEv g b ds ρ T = .ok (.nx ρ') T' ∧ P [] ρ' T'
  | [], ρ, T, h => ⟨ρ, T, rfl, h⟩
  | d :: ds, ρ, T, h => by
    obtain ⟨ρ', T', h1, h2⟩ := step d ds ρ T h
    obtain ⟨ρ2, T2, h3, h4⟩ := for_inv P step ds ρ' T' h2
    refine ⟨ρ2, T2, ?_, h4⟩
    show ((g d ρ T).bind fun ρ1 T1 => (b ρ1 T1).bind _) = _
    have key : ∀ {α β γ : Type} (x : Ev α) (f : α → Cs → Ev β) (k : β → Cs → Ev γ), (x.bind fun a T => (f a T).bind k) = (x.bind f).bind k := fun x f k => by cases x <;> rfl
    rw [key, h1]
    exact h3
/-- .. by what it makes of a state -/
theorem for_fold {S : Type} {g : D → Env → Cs → Ev Env} {b : Env → Cs → Ev Fl} (enc : S → Env) (step : S → D → S) {T : Cs} (Q : S → Prop) : ∀ (ds : List D) (s : S), Q s →
    (∀ s d, Q s → d ∈ ds → ((g d (enc s) T).bind fun ρ1 T1 => b ρ1 T1) = .ok (.nx (enc (step s d))) T ∧ Q (step s d)) → forEv g b ds (enc s) T = .ok (.nx (enc (ds.foldl step s))) T ∧ Q (ds.foldl step s)
  | [], s, q, _ => ⟨rfl, q⟩
  | d :: ds, s, q, h => by
    obtain ⟨h1, h2⟩ := h s d q List.mem_cons_self
    have ih := for_fold enc step Q ds (step s d) h2 fun s d q hd => h s d q (List.mem_cons_of_mem _ hd)
    refine ⟨?_, ih.2⟩
    show ((g d (enc s) T).bind fun ρ1 T1 => (b ρ1 T1).bind _) = _
    have key : ∀ {α β γ : Type} (x : Ev α) (f : α → Cs → Ev β) (k : β → Cs → Ev γ), (x.bind fun a T => (f a T).bind k) = (x.bind f).bind k := fun x f k => by cases x <;> rfl
    rw [key, h1]
    exact ih.1
theorem lc_map {g : D → Env → Cs → Ev Env} {e : Env → Cs → Ev D} {ρ : Env} {T : Cs} (f : D → D) : ∀ {ds : List D}, (∀ d ∈ ds, ((g d ρ T).bind fun ρ1 T1 => e ρ1 T1) = .ok (f d) T) → (∀ d ∈ ds, ∃ ρ1, g d ρ T = .ok ρ1 T) → lcEv g (evC none) e ρ ds T = .ok (ds.map f) T
  | [], _, _ => rfl
  | d :: ds, h, h2 => by
    obtain ⟨ρ1, e1⟩ := h2 d List.mem_cons_self
    have e2 := h d List.mem_cons_self
    rw [e1] at e2
    have e2 : e ρ1 T = .ok (f d) T := e2
    have ih := lc_map f (fun d hd => h d (List.mem_cons_of_mem _ hd)) (fun d hd => h2 d (List.mem_cons_of_mem _ hd))
    show ((g d ρ T).bind fun ρ1 T1 => (e ρ1 T1).bind fun x T3 => (lcEv g (evC none) e ρ ds T3).bind fun r T4 => .ok (x :: r) T4) = _
    rw [e1]
    show ((e ρ1 T).bind fun x T3 => (lcEv g (evC none) e ρ ds T3).bind fun r T4 => .ok (x :: r) T4) = _
    rw [e2]
    show ((lcEv g (evC none) e ρ ds T).bind fun r T4 => Ev.ok (f d :: r) T4) = _
    rw [ih]; rfl
theorem forEv_n (g : D → Env → Cs → Ev Env) (b : Env → Cs → Ev Fl) : forEv g b [] ρ T = .ok (.nx ρ) T := rfl
def forK (g : D → Env → Cs → Ev Env) (b : Env → Cs → Ev Fl) (ds : List D) (f : Fl) (T2 : Cs) : Ev Fl := match f with
      | .nx ρ' => forEv g b ds ρ' T2
      | .ct ρ' => forEv g b ds ρ' T2
      | .bk ρ' => .ok (.nx ρ') T2
      | .rt lv => .ok (.rt lv) T2
theorem forEv_c (g : D → Env → Cs → Ev Env) (b : Env → Cs → Ev Fl) (d : D) (ds : List D) : forEv g b (d :: ds) ρ T = (g d ρ T).bind fun ρ1 T1 => (b ρ1 T1).bind (forK g b ds) := rfl
theorem forK_nx (g : D → Env → Cs → Ev Env) (b : Env → Cs → Ev Fl) (ds : List D) : forK g b ds (.nx ρ) T = forEv g b ds ρ T := rfl
theorem forK_ct (g : D → Env → Cs → Ev Env) (b : Env → Cs → Ev Fl) (ds : List D) : forK g b ds (.ct ρ) T = forEv g b ds ρ T := rfl
theorem forK_bk (g : D → Env → Cs → Ev Env) (b : Env → Cs → Ev Fl) (ds : List D) : forK g b ds (.bk ρ) T = .ok (.nx ρ) T := rfl
theorem forK_rt (g : D → Env → Cs → Ev Env) (b : Env → Cs → Ev Fl) (ds : List D) (lv : LV) : forK g b ds (.rt lv) T = .ok (.rt lv) T := rfl
def whK (c : Env → Cs → Ev Bool) (b : Env → Cs → Ev Fl) (m : Nat) (f : Fl) (T2 : Cs) : Ev Fl := match f with
      | .nx ρ' => whileEv c b m ρ' T2
      | .ct ρ' => whileEv c b m ρ' T2
      | .bk ρ' => .ok (.nx ρ') T2
      | .rt lv => .ok (.rt lv) T2
theorem whileEv_s (c : Env → Cs → Ev Bool) (b : Env → Cs → Ev Fl) (m : Nat) : whileEv c b (m + 1) ρ T = (c ρ T).bind fun k T1 => if k then (b ρ T1).bind (whK c b m) else .ok (.nx ρ) T1 := rfl
theorem whK_nx (c : Env → Cs → Ev Bool) (b : Env → Cs → Ev Fl) (m : Nat) : whK c b m (.nx ρ) T = whileEv c b m ρ T := rfl
theorem lI_snoc (l : List Int) (a : Int) : lI l ++ [D.int a] = lI (l ++ [a]) := by simp [lI]
theorem lI_rev (l : List Int) : (lI l).reverse = lI l.reverse := by simp [lI]
theorem lc_cons {g : D → Env → Cs → Ev Env} {e : Env → Cs → Ev D} {d x : D} {ds r : List D} {T1 T2 : Cs} (h1 : ((g d ρ T).bind fun ρ1 T1 => e ρ1 T1) = .ok x T1) (h2 : lcEv g (evC none) e ρ ds T1 = .ok r T2) : lcEv g (evC none) e ρ (d :: ds) T = .ok (x :: r) T2 := by
  obtain ⟨ρ1, T3, e1, e2⟩ := Ev.bind_ok h1
  show ((g d ρ T).bind fun ρ1 T1 => (e ρ1 T1).bind fun x T3 => (lcEv g (evC none) e ρ ds T3).bind fun r T4 => .ok (x :: r) T4) = _
  rw [e1]
  show ((e ρ1 T3).bind fun x T3 => (lcEv g (evC none) e ρ ds T3).bind fun r T4 => .ok (x :: r) T4) = _
  rw [e2]
  show ((lcEv g (evC none) e ρ ds T1).bind fun r T4 => Ev.ok (x :: r) T4) = _
  rw [h2]; rfl
theorem lc_int {g : D → Env → Cs → Ev Env} {e : Env → Cs → Ev D} (f : Int → Int) : ∀ {xs : List Int}, (∀ a, a ∈ xs → ((g (.int a) ρ T).bind fun ρ1 T1 => e ρ1 T1) = .ok (.int (f a)) T) → lcEv g (evC none) e ρ (lI xs) T = .ok (lI (xs.map f)) T
  | [], _ => rfl
  | a :: xs, h => lc_cons (h a List.mem_cons_self) (lc_int f fun a ha => h a (List.mem_cons_of_mem _ ha))
theorem lc_zipI {g : D → Env → Cs → Ev Env} {e : Env → Cs → Ev D} (f : Int → Int → Int) : ∀ {xs ys : List Int}, (∀ a b, a ∈ xs → b ∈ ys → ((g (.tup [.int a, .int b]) ρ T).bind fun ρ1 T1 => e ρ1 T1) = .ok (.int (f a b)) T) → lcEv g (evC none) e ρ (zipD (lI xs) (lI ys)) T = .ok (lI (List.zipWith f xs ys)) T
  | [], ys, _ => by cases ys <;> rfl
  | a :: xs, [], _ => rfl
  | a :: xs, b :: ys, h => lc_cons (h a b List.mem_cons_self List.mem_cons_self) (lc_zipI f fun a b ha hb => h a b (List.mem_cons_of_mem _ ha) (List.mem_cons_of_mem _ hb))
def isiR (own : List Nat) (us : List Ty) (r : R) : Option R := (tyR own r).map fun t => .v (.sh (.bl (us.any fun u => isTy t u)))
theorem cIsi_e (own : List Nat) (u : Ty) (a : CE) : (cIsi own u a).ev ρ T = (a.ev ρ T).bind fun r T1 => Ev.opt (isiR own [u] r) T1 := rfl
theorem cIsi2_e (own : List Nat) (u u2 : Ty) (a : CE) : (cIsi2 own u u2 a).ev ρ T = (a.ev ρ T).bind fun r T1 => Ev.opt (isiR own [u, u2] r) T1 := rfl
theorem isi_ii (own : List Nat) (i : Int) : isiR own [.b "int"] (.v (.sh (.int i))) = some (.v (.sh (.bl true))) := rfl
theorem isi_ib (own : List Nat) (i : Int) : isiR own [.b "bool"] (.v (.sh (.int i))) = some (.v (.sh (.bl false))) := rfl
theorem isi_llt (own : List Nat) (l : List D) : isiR own [.b "list", .b "tuple"] (.v (.sh (.lst l))) = some (.v (.sh (.bl true))) := rfl
theorem isi_tlt (own : List Nat) (l : List D) : isiR own [.b "list", .b "tuple"] (.v (.sh (.tup l))) = some (.v (.sh (.bl true))) := rfl
theorem len_l (l : List D) : bLen.f [.v (.sh (.lst l))] = some (.v (.sh (.int l.length))) := rfl
theorem len_t (l : List D) : bLen.f [.v (.sh (.tup l))] = some (.v (.sh (.int l.length))) := rfl
theorem len_f (l : List D) : bLen.f [.v (.sh (.fz l))] = some (.v (.sh (.int l.length))) := rfl
theorem len_o (l : List D) : bLen.f [.v (.ow l)] = some (.v (.sh (.int l.length))) := rfl
theorem len_b (l : List D) : bLen.f [.bw l] = some (.v (.sh (.int l.length))) := rfl
theorem int_i (i : Int) : bInt.f [.v (.sh (.int i))] = some (.v (.sh (.int i))) := rfl
theorem abs_i (i : Int) : bAbs.f [.v (.sh (.int i))] = some (.v (.sh (.int (if i < 0 then -i else i)))) := rfl
theorem max_i (i j : Int) : bMax2.f [.v (.sh (.int i)), .v (.sh (.int j))] = some (.v (.sh (.int (if j > i then j else i)))) := rfl
theorem min_i (i j : Int) : bMin2.f [.v (.sh (.int i)), .v (.sh (.int j))] = some (.v (.sh (.int (if j < i then j else i)))) := rfl
theorem lst_l (l : List D) : bList.f [.v (.sh (.lst l))] = some (.v (.ow l)) := rfl
theorem lst_o (l : List D) : bList.f [.v (.ow l)] = some (.v (.ow l)) := rfl
theorem lst_b (l : List D) : bList.f [.bw l] = some (.v (.ow l)) := rfl
theorem divmod_i (i : Int) {j : Int} (h : 0 < j) (h2 : j < 1073741824) : bDivmod.f [.v (.sh (.int i)), .v (.sh (.int j))] = some (.v (.sh (.tup [.int (i / j), .int (i % j)]))) := if_pos ⟨h, h2⟩
theorem zip2_run {i j : Nat} {a b : CE} {t : CG} {e : CE} {own : List (Str × Nat)} {s : DefSig} {ev : FEv} {srcs : List Src} {B : BindOk s 2 [] srcs} {xs ys out : List D} {d r : D} (hx : evD a.ev ρ T = .ok (.lst xs) T) (hy : evD b.ev ρ T = .ok (.lst ys) T) (hi : i < ρ.length)
    (hd : (forget ρ [i])[j]? = some (some (.sh d))) (hl : lcEv t.ev (evC none) (evD e.ev) (forget (forget ρ [i]) (own.map (·.2))) (zipD xs ys) T = .ok out T) (ho : out.length ≤ 1000000) (hr : ev (sel .non [d, .lst out] s.dfl srcs) T = .ok (.sh r) T) :
    (sZip2 i j a b t e own s ev srcs B).ev ρ T = .ok (.rt (.sh r)) T := by
  show zip2Ev i j (evD a.ev) (evD b.ev) t.ev (evD e.ev) (own.map (·.2)) ev srcs s.dfl ρ T = _
  unfold zip2Ev
  simp only [hx, hy, bind_ok', dLst_l, hi, if_true, hd, hl, noX_ok, ho, hr]
theorem fIx_b (xs : List D) (i : Int) : fIx T (.bw xs) (.v (.sh (.int i))) = (L2.atI xs i).map fun d => .v (.sh d) := rfl
theorem fIx_o (xs : List D) (i : Int) : fIx T (.v (.ow xs)) (.v (.sh (.int i))) = (L2.atI xs i).map fun d => .v (.sh d) := rfl
theorem fIx_l (xs : List D) (i : Int) : fIx T (.v (.sh (.lst xs))) (.v (.sh (.int i))) = (L2.atI xs i).map fun d => .v (.sh d) := rfl
theorem fIx_f (xs : List D) (i : Int) : fIx T (.v (.sh (.fz xs))) (.v (.sh (.int i))) = (L2.atI xs i).map fun d => .v (.sh d) := rfl
theorem fIx_t (xs : List D) (i : Int) : fIx T (.v (.sh (.tup xs))) (.v (.sh (.int i))) = (L2.atI xs i).map fun d => .v (.sh d) := rfl
def ixC (o : Option (List D)) (i : Int) : Option R := match o with
        | some xs => (L2.atI xs i).map fun d => .v (.sh d)
        | none => none
theorem fIx_c (m : Nat) (i : Int) : fIx T (.v (.sh (.cell m))) (.v (.sh (.int i))) = ixC (T[m]?) i := rfl
theorem ixC_s (xs : List D) (i : Int) : ixC (some xs) i = (L2.atI xs i).map fun d => .v (.sh d) := rfl
theorem atI_nn {γ : Type} {l : List γ} {i : Int} (h0 : 0 ≤ i) (h1 : i < l.length) : L2.atI l i = l[i.toNat]? := by
  unfold L2.atI L2.ixN
  rw [if_pos h0, if_pos h1]; rfl
theorem atI_ii {l : List Int} {i : Int} (h0 : 0 ≤ i) (h1 : i < l.length) : L2.atI (lI l) i = some (.int (l.getD i.toNat 0)) := by
  rw [atI_nn h0 (by rw [lI_len]; exact h1)]
  unfold lI
  have h2 : i.toNat < l.length := by omega
  rw [List.getElem?_map, List.getElem?_eq_getElem h2, List.getD_eq_getElem?_getD, List.getElem?_eq_getElem h2]
  rfl
theorem atI_c0 {γ : Type} (a : γ) (l : List γ) : L2.atI (a :: l) 0 = some a := by
  rw [atI_nn (Int.le_refl 0) (by simp only [List.length_cons]; omega)]; rfl
theorem atI_c1 {γ : Type} (a b : γ) (l : List γ) : L2.atI (a :: b :: l) 1 = some b := by
  rw [atI_nn (by omega) (by simp only [List.length_cons]; omega)]; rfl
theorem atI_c2 {γ : Type} (a b c : γ) (l : List γ) : L2.atI (a :: b :: c :: l) 2 = some c := by
  rw [atI_nn (by omega) (by simp only [List.length_cons]; omega)]; rfl
theorem setAt_ii {l : List Int} {i : Int} (v : Int) (h0 : 0 ≤ i) (h1 : i < l.length) : setAt (lI l) (.v (.sh (.int i))) (.int v) = some (lI (l.set i.toNat v)) := by
  show (L2.ixN (lI l).length i).map _ = _
  unfold L2.ixN
  rw [if_pos h0, if_pos (by rw [lI_len]; exact h1), Option.map_some]
  unfold lI
  rw [List.map_set]
theorem setAt_c0 (a v : D) (l : List D) : setAt (a :: l) (.v (.sh (.int 0))) v = some (v :: l) := by
  show (L2.ixN (a :: l).length 0).map _ = _
  unfold L2.ixN
  rw [if_pos (Int.le_refl 0), if_pos (by simp only [List.length_cons]; omega)]; rfl
theorem setAt_c1 (a b v : D) (l : List D) : setAt (a :: b :: l) (.v (.sh (.int 1))) v = some (a :: v :: l) := by
  show (L2.ixN (a :: b :: l).length 1).map _ = _
  unfold L2.ixN
  rw [if_pos (by omega), if_pos (by simp only [List.length_cons]; omega)]; rfl
end
end Tp
end
set_option maxRecDepth 100000
-- evs [..] as a row of this text alone
local macro_rules | `(tactic| dsimp! only [$ls,*]) => `(tactic| simp (implicitDefEqProofs := false) (disch := omega) only [Tp.bind_ok', Tp.bind_no, Tp.opt_some, Tp.opt_none, Tp.cVar_e, Tp.rdVar_sh, Tp.rdVar_ow, Tp.cInt_e, Tp.cBl_e, Tp.cNon_e, Tp.cStr_e, Tp.cGInt_e, Tp.cGTup_e, Tp.cBin_e, Tp.cCmp_e, Tp.tCmp_e, Tp.tVal_e, Tp.tNotT_e, Tp.rBl_e, Tp.add_f, Tp.sub_f, Tp.mul_f, Tp.div_f, Tp.mod_f, Tp.lt_f, Tp.le_f, Tp.gt_f, Tp.ge_f, Tp.eq_f, Tp.ne_f, Tp.add_i, Tp.sub_i, Tp.lt_i, Tp.le_i, Tp.gt_i, Tp.ge_i, Tp.eq_i, Tp.ne_i, Tp.div_i, Tp.mod_i, Tp.mul_r, Tp.mul_l, Tp.evD_e, Tp.rD_sh, Tp.rD_ow, Tp.dNil_e, Tp.dCons_e, Tp.aNil_e, Tp.aCons_e, Tp.wNil_e, Tp.wCons_e, Tp.cLst_e, Tp.cTup_e, Tp.cIx_e, Tp.cSlice_e, Tp.evP_n, Tp.evP_s, Tp.cRev_e, Tp.rLs2_l, Tp.rLs2_f, Tp.rLs2_o, Tp.rLs2_b, Tp.cNeg_e, Tp.tAnd_e, Tp.tOr_e, Tp.andEv_1, Tp.andEv_2, Tp.orEv_1, Tp.orEv_2, Tp.cAnd_e, Tp.cOr_e, Tp.andVe_1, Tp.andVe_2, Tp.orVe_1, Tp.orVe_2, Tp.cIte_e, Tp.cNot_e, Tp.cBlt_e, Tp.sEnd_e, Tp.sSeq_e, Tp.thenS_nx, Tp.thenS_rt, Tp.thenS_bk, Tp.thenS_ct, Tp.sForget_e, Tp.sFrz_e, Tp.sAsg_e, Tp.asLV_k, Tp.asLV_s, Tp.asLV_o, Tp.sRet_e, Tp.retLV_s, Tp.retLV_o, Tp.retLV_b, Tp.sPass_e, Tp.sExpr_e, Tp.sIf_e, Tp.sWhile_e, Tp.sAppend_e, Tp.gNm_e, Tp.gIx_e, Tp.gTp_e, Tp.evGs_n, Tp.evGs_c, Tp.sAsgG_e, Tp.kNil_e, Tp.kCons_e, Tp.sPar_e, Tp.sParT_e, Tp.setAll_c, Tp.setAll_n, Tp.sFor_e, Tp.iLst_e, Tp.dLst_l, Tp.dLst_f, Tp.iRange1_e, Tp.iRange2_e, Tp.iRange3_e, Tp.iZip2_e, Tp.iZip3_e, Tp.zipS_ll, Tp.zipS_lt, Tp.tChn_e, Tp.cChain_e, Tp.chK_b, Option.bind_some, Tp.sMove_e, Tp.movK_o, Tp.rdVar_od, Tp.retLV_bd, Tp.retLV_od, Tp.toR_d, Tp.finK_d, Tp.cDnew_e, Tp.cLock_e, Tp.lockR_o, Tp.lockR_s, Tp.cDget_e, Tp.fDget_i, Tp.sDput_e, Tp.dputK_o, Tp.dputE_i, Tp.cSortDR_e, Tp.lenD_s, Tp.iDK_e, Tp.dkD_d, Tp.cObjEq_e, Tp.tObjEq_e, Tp.sPopLast_e, Tp.popLK_o, Tp.popLD_s, Tp.cLRg1_e, Tp.iEnum1_e, Tp.cLc_e, Tp.sAsgLc_e, Tp.noX_ok, Tp.evC_n, Tp.evC_s, Tp.cCall_e, Tp.cCallK_e, Tp.sel_a, Tp.sel_d, Tp.sel_n, Tp.toR_s, Tp.toR_o, Tp.cCell_e, Tp.forEv_n, Tp.forEv_c, Tp.forK_nx, Tp.forK_ct, Tp.forK_bk, Tp.forK_rt, Tp.whK_nx, Tp.lI_snoc, Tp.lI_rev, Tp.fIx_b, Tp.fIx_o, Tp.fIx_l, Tp.fIx_f, Tp.fIx_t, Tp.fIx_c, Tp.ixC_s, Tp.atI_ii, Tp.atI_c0, Tp.atI_c1, Tp.atI_c2, Tp.setAt_ii, Tp.setAt_c0, Tp.setAt_c1, Tp.cIsi_e, Tp.cIsi2_e, Tp.isi_ii, Tp.isi_ib, Tp.isi_llt, Tp.isi_tlt, Tp.len_l, Tp.len_t, Tp.len_f, Tp.len_o, Tp.len_b, Tp.int_i, Tp.abs_i, Tp.max_i, Tp.min_i, Tp.lst_l, Tp.lst_o, Tp.lst_b, Tp.divmod_i, Tp.pK_i, Tp.negK_i, Tp.andK_b, Tp.orK_b, Tp.frzK_o, Tp.frzK_s, Tp.asgK_s, Tp.retK_s, Tp.appK_o, Tp.gixK_o, Tp.gixK_c, Tp.gixO_s, Tp.konK_s, Tp.rn1_i, Tp.rn2_i, Tp.rn3_i, Tp.zipK_s, Tp.cellK_o, Tp.finK_s, Tp.finK_o, Tp.finK_n, Tp.le_lim, Tp.lt_lim, Tp.lI_len, ite_true, ite_false, Tp.cFld_e, Tp.defEv_0, Tp.sPop_e, Tp.popK_o, Tp.cBor_e, Tp.tBor_e, Tp.borQ_o, Tp.borQ_s, Tp.iSeq_e, Tp.seqD_t, Tp.seqD_l, Tp.seqD_f, Tp.defEv_1, Tp.defEv_2, Tp.defEv_3, Tp.defEv_4, Tp.defEv_5, Tp.defEv_6, Tp.defEv_7, Tp.defEv_8, Tp.defEv_9, List.getElem?_cons_zero, List.getElem?_cons_succ, List.set_cons_zero, List.set_cons_succ, List.length_cons, List.length_nil, List.length_set, List.map_cons, List.map_nil, List.append_nil, List.nil_append, List.cons_append, List.getD_cons_zero, List.getD_cons_succ, List.replicate_succ, List.replicate_zero, Nat.reduceAdd, Nat.reduceSub, Nat.reduceLT, Nat.reduceLeDiff, Nat.reduceEqDiff, Nat.zero_add, List.all_cons, List.all_nil, List.mem_cons, true_or, or_true, Bool.and_true, Bool.true_and, Bool.and_self, decide_true, decide_false, if_true, if_false, Bool.false_eq_true, Bool.true_eq_false, Tp.forget, Option.map_some, Option.map_none, Nat.lt_add_left_iff_pos, Nat.lt_irrefl, Bool.not_true, Bool.not_false, $ls,*])
section
set_option Elab.async false
set_option linter.all false
set_option maxRecDepth 100000
/-! FqA: digits; the fields by tables: a commutative ring. -/
namespace Fq

/-! ### digits -/
def dig (p : Int) : Nat → Int → List Int
  | 0, _ => []
  | n + 1, x => x % p :: dig p n (x / p)
def und (p : Int) : List Int → Int
  | [] => 0
  | d :: l => d + p * und p l
def Rg (p : Int) (l : List Int) : Prop := ∀ d, d ∈ l → 0 ≤ d ∧ d < p
theorem Rg.head {p d : Int} {l : List Int} (h : Rg p (d :: l)) : 0 ≤ d ∧ d < p := h d List.mem_cons_self
theorem Rg.tail {p d : Int} {l : List Int} (h : Rg p (d :: l)) : Rg p l := fun x hx => h x (List.mem_cons_of_mem _ hx)
theorem dig_len {p : Int} : ∀ {n : Nat} {x : Int}, (dig p n x).length = n
  | 0, _ => rfl
  | n + 1, x => by simp only [dig, List.length_cons, dig_len]
theorem dig_rg {p : Int} (hp : 0 < p) : ∀ {n : Nat} {x : Int}, Rg p (dig p n x)
  | 0, _ => fun d h => by cases h
  | n + 1, x => fun d h => by
    simp only [dig, List.mem_cons] at h
    rcases h with rfl | h
    · exact ⟨Int.emod_nonneg _ (by omega), Int.emod_lt_of_pos _ hp⟩
    · exact dig_rg hp d h
theorem und_rg {p : Int} (hp : 0 < p) : ∀ {l : List Int}, Rg p l → 0 ≤ und p l ∧ und p l < p ^ l.length
  | [], _ => by simp [und]
  | d :: l, h => by
    obtain ⟨h1, h2⟩ := und_rg hp h.tail
    obtain ⟨h3, h4⟩ := h.head
    simp only [und, List.length_cons, Int.pow_succ]
    have h5 : 0 ≤ p * und p l := Int.mul_nonneg (Int.le_of_lt hp) h1
    have h6 : p * (und p l + 1) ≤ p * p ^ l.length := Int.mul_le_mul_of_nonneg_left (by omega) (Int.le_of_lt hp)
    rw [Int.mul_add, Int.mul_one] at h6
    rw [Int.mul_comm (p ^ l.length)]
    omega
theorem und_dig {p : Int} (hp : 0 < p) : ∀ {n : Nat} {x : Int}, 0 ≤ x → x < p ^ n → und p (dig p n x) = x
  | 0, x, h1, h2 => by simp at h2; simp only [dig, und]; omega
  | n + 1, x, h1, h2 => by
    have h3 : x / p < p ^ n := Int.ediv_lt_of_lt_mul hp (by rw [Int.pow_succ] at h2; exact h2)
    simp only [dig, und]
    rw [und_dig hp (Int.ediv_nonneg h1 (Int.le_of_lt hp)) h3]
    exact Int.emod_add_mul_ediv x p
theorem dig_und {p : Int} (hp : 0 < p) : ∀ {l : List Int}, Rg p l → dig p l.length (und p l) = l
  | [], _ => rfl
  | d :: l, h => by
    obtain ⟨h3, h4⟩ := h.head
    simp only [List.length_cons, dig, und]
    have e1 : (d + p * und p l) % p = d := by rw [Int.add_mul_emod_self_left]; exact Int.emod_eq_of_lt h3 h4
    have e2 : (d + p * und p l) / p = und p l := by
      rw [Int.add_mul_ediv_left _ _ (by omega), Int.ediv_eq_zero_of_lt h3 h4, Int.zero_add]
    rw [e1, e2, dig_und hp h.tail]
theorem dig_inj {p : Int} (hp : 0 < p) {n : Nat} {x y : Int} (hx : 0 ≤ x ∧ x < p ^ n) (hy : 0 ≤ y ∧ y < p ^ n) (h : dig p n x = dig p n y) : x = y := by
  rw [← und_dig hp hx.1 hx.2, h, und_dig hp hy.1 hy.2]
/-! ### lists of figures -/
def nm (p : Int) (l : List Int) : List Int := l.map (· % p)
def zp (a b : List Int) : List Int := List.zipWith (· + ·) a b
def ng (a : List Int) : List Int := a.map fun x => -x
def sc (c : Int) (a : List Int) : List Int := a.map fun x => c * x
def zs (n : Nat) : List Int := List.replicate n 0
theorem nm_len {p : Int} {l : List Int} : (nm p l).length = l.length := List.length_map _
theorem zp_len {a b : List Int} (h : a.length = b.length) : (zp a b).length = a.length := by simp [zp, h]
theorem nm_rg {p : Int} (hp : 0 < p) {l : List Int} : Rg p (nm p l) := fun d h => by
  obtain ⟨x, _, rfl⟩ := List.mem_map.mp h
  exact ⟨Int.emod_nonneg _ (by omega), Int.emod_lt_of_pos _ hp⟩
theorem nm_of {p : Int} : ∀ {l : List Int}, Rg p l → nm p l = l
  | [], _ => rfl
  | d :: l, h => by
    have := h.head
    have e := nm_of h.tail
    unfold nm at e ⊢
    rw [List.map_cons, e, Int.emod_eq_of_lt this.1 this.2]
theorem zp_comm : ∀ a b : List Int, zp a b = zp b a
  | [], b => by cases b <;> rfl
  | a :: l, [] => rfl
  | a :: l, b :: m => by
    have := zp_comm l m
    unfold zp at this ⊢
    simp only [List.zipWith_cons_cons, this, Int.add_comm]
theorem zp_assoc : ∀ a b c : List Int, zp (zp a b) c = zp a (zp b c)
  | [], b, c => by simp [zp]
  | a :: l, [], c => by simp [zp]
  | a :: l, b :: m, [] => by simp [zp]
  | a :: l, b :: m, c :: n => by
    have := zp_assoc l m n
    unfold zp at this ⊢
    simp only [List.zipWith_cons_cons, this, Int.add_assoc]
theorem nm_zp {p : Int} : ∀ a b : List Int, nm p (zp (nm p a) b) = nm p (zp a b)
  | [], b => by simp [zp, nm]
  | a :: l, [] => by simp [zp, nm]
  | a :: l, b :: m => by
    have := nm_zp (p := p) l m
    unfold zp nm at this ⊢
    simp only [List.map_cons, List.zipWith_cons_cons, this, Int.emod_add_emod]
theorem nm_zp2 {p : Int} (a b : List Int) : nm p (zp a (nm p b)) = nm p (zp a b) := by rw [zp_comm, nm_zp, zp_comm]
theorem nm_nm {p : Int} (a : List Int) : nm p (nm p a) = nm p a := by simp [nm, List.map_map, Function.comp_def, Int.emod_emod]
theorem zp_zs : ∀ {n : Nat} {a : List Int}, a.length = n → zp a (zs n) = a
  | 0, [], _ => rfl
  | n + 1, a :: l, h => by
    have := zp_zs (n := n) (a := l) (by simpa using h)
    unfold zp zs at this ⊢
    simp only [List.replicate_succ, List.zipWith_cons_cons, this, Int.add_zero]
theorem zp_ng : ∀ {n : Nat} {a : List Int}, a.length = n → zp (ng a) a = zs n
  | 0, [], _ => rfl
  | n + 1, a :: l, h => by
    have := zp_ng (n := n) (a := l) (by simpa using h)
    unfold zp zs ng at this ⊢
    simp only [List.replicate_succ, List.map_cons, List.zipWith_cons_cons, this]
    congr 1
    omega
theorem nm_ng {p : Int} (a : List Int) : nm p (ng (nm p a)) = nm p (ng a) := by
  simp only [nm, ng, List.map_map, Function.comp_def]
  apply List.map_congr_left
  intro x _
  have e : -(x % p) = -x + p * (x / p) := by have := Int.emod_add_mul_ediv x p; omega
  rw [e, Int.add_mul_emod_self_left]
theorem nm_zs {p : Int} (n : Nat) : nm p (zs n) = zs n := by simp [nm, zs]
theorem dig_zero {p : Int} : ∀ n : Nat, dig p n 0 = zs n
  | 0 => rfl
  | n + 1 => by simp only [dig, Int.zero_ediv, Int.zero_emod, dig_zero n]; rfl
/-! ### linear maps of figures -/
def lin (n : Nat) : List (List Int) → List Int → List Int
  | v :: vs, a :: l => zp (sc a v) (lin n vs l)
  | _, _ => zs n
theorem sc_len {c : Int} {a : List Int} : (sc c a).length = a.length := List.length_map _
theorem lin_len {n : Nat} : ∀ {vs : List (List Int)} {l : List Int}, (∀ v, v ∈ vs → v.length = n) → (lin n vs l).length = n
  | [], _, _ => by simp [lin, zs]
  | v :: vs, [], _ => by simp [lin, zs]
  | v :: vs, a :: l, h => by
    have h1 := h v List.mem_cons_self
    have h2 := lin_len (l := l) (vs := vs) fun v hv => h v (List.mem_cons_of_mem _ hv)
    simp only [lin]
    rw [zp_len (by rw [sc_len, h1, h2]), sc_len, h1]
theorem sc_add (a b : Int) (v : List Int) : sc (a + b) v = zp (sc a v) (sc b v) := by
  unfold sc zp
  induction v with
  | nil => rfl
  | cons x v ih => simp only [List.map_cons, List.zipWith_cons_cons, Int.add_mul] at ih ⊢; rw [ih]
theorem lin_zp {n : Nat} : ∀ {vs : List (List Int)} {l m : List Int}, l.length = m.length → (∀ v, v ∈ vs → v.length = n) → lin n vs (zp l m) = zp (lin n vs l) (lin n vs m)
  | [], _, _, _, _ => by simp [lin, zp, zs]
  | v :: vs, [], [], _, _ => by simp [lin, zp, zs]
  | v :: vs, [], _ :: _, h, _ => by cases h
  | v :: vs, _ :: _, [], h, _ => by cases h
  | v :: vs, a :: l, b :: m, h, hv => by
    have ih := lin_zp (vs := vs) (l := l) (m := m) (n := n) (by simpa using h) fun v hw => hv v (List.mem_cons_of_mem _ hw)
    have e : zp (a :: l) (b :: m) = (a + b) :: zp l m := rfl
    rw [e]
    simp only [lin]
    rw [ih, sc_add, zp_assoc, zp_assoc, ← zp_assoc (sc b v), zp_comm (sc b v), zp_assoc]
theorem nm_sc {p : Int} (a : Int) (v : List Int) : nm p (sc (a % p) v) = nm p (sc a v) := by
  simp only [nm, sc, List.map_map, Function.comp_def]
  apply List.map_congr_left
  intro x _
  rw [Int.mul_emod (a % p), Int.emod_emod, ← Int.mul_emod]
theorem nm_lin {p : Int} {n : Nat} : ∀ {vs : List (List Int)} {l : List Int}, nm p (lin n vs (nm p l)) = nm p (lin n vs l)
  | [], _ => by simp [lin]
  | v :: vs, [] => by simp [lin, nm]
  | v :: vs, a :: l => by
    have ih := nm_lin (p := p) (n := n) (vs := vs) (l := l)
    have e : nm p (a :: l) = a % p :: nm p l := rfl
    rw [e]
    simp only [lin]
    rw [← nm_zp, nm_sc, nm_zp, ← nm_zp2, ih, nm_zp2]
end Fq
end
section
set_option Elab.async false
set_option linter.all false
set_option maxRecDepth 100000
set_option maxHeartbeats 2000000
/-! FqB: the fields by tables: a commutative ring. -/
namespace Fq

structure Fld where
  p : Nat
  t : Nat
  m : List Int
  pw : List Int
  lg : List Int
  deriving DecidableEq
def at0 (l : List Int) (i : Int) : Int := l.getD i.toNat 0
namespace Fld
variable (F : Fld)
def q : Nat := F.p ^ F.t
def vec (x : Int) : List Int := dig F.p F.t x
def addc (x y : Int) : Int := und F.p (nm F.p (zp (F.vec x) (F.vec y)))
def negc (x : Int) : Int := und F.p (nm F.p (ng (F.vec x)))
def mulc (x y : Int) : Int := if x = 0 ∨ y = 0 then 0 else at0 F.pw ((at0 F.lg x + at0 F.lg y) % ((F.q : Int) - 1))
def gen (x : Int) : Int := if x = 0 then 0 else at0 F.pw ((at0 F.lg x + 1) % ((F.q : Int) - 1))
def vs (G : Int → Int) : List (List Int) := (List.range F.t).map fun k => F.vec (G ((F.p : Int) ^ k))
def linB (G : Int → Int) : Bool := (List.range F.q).all fun x => F.vec (G x) == nm F.p (lin F.t (F.vs G) (F.vec x))
def horn : List Int → Int
  | [] => 0
  | c :: l => F.addc (c % F.p) (F.mulc F.p (horn l))
def ok : Bool :=
  decide (2 ≤ F.p) && (decide (2 ≤ F.t) && (decide (F.pw.length = F.q - 1) && (decide (F.lg.length = F.q) && (decide (at0 F.pw 0 = 1) &&
    (((List.range (F.q - 1)).all fun i => decide (1 ≤ at0 F.pw i) && (decide (at0 F.pw i < F.q) && decide (at0 F.lg (at0 F.pw i) = i))) &&
    (((List.range F.q).all fun x => decide (x = 0) || (decide (0 ≤ at0 F.lg x) && (decide (at0 F.lg x < (F.q : Int) - 1) && decide (at0 F.pw (at0 F.lg x) = x)))) &&
    (F.linB F.gen && (((List.range (F.p ^ (F.t - 1))).all fun y => decide (F.mulc F.p y = (F.p : Int) * y)) &&
    (decide (F.horn F.m = 0) && (decide (F.m.length = F.t + 1) && (decide (at0 F.m F.t = 1) && (decide (F.q ≤ 128) && F.m.all fun c => decide (0 ≤ c) && decide (c < F.p)))))))))))))
end Fld
class FOk (F : Fld) : Prop where
  ok : F.ok = true
section
variable (F : Fld) [h : FOk F]
theorem ba {a b : Bool} (h : (a && b) = true) : a = true ∧ b = true := Bool.and_eq_true_iff.mp h
structure Facts : Prop where
  p2 : 2 ≤ F.p
  t2 : 2 ≤ F.t
  pl : F.pw.length = F.q - 1
  ll : F.lg.length = F.q
  one : at0 F.pw 0 = 1
  pw_ : ∀ i : Int, 0 ≤ i → i < (F.q : Int) - 1 → 1 ≤ at0 F.pw i ∧ at0 F.pw i < F.q ∧ at0 F.lg (at0 F.pw i) = i
  lg_ : ∀ x : Int, 1 ≤ x → x < F.q → 0 ≤ at0 F.lg x ∧ at0 F.lg x < (F.q : Int) - 1 ∧ at0 F.pw (at0 F.lg x) = x
  gl : ∀ x : Int, 0 ≤ x → x < F.q → F.vec (F.gen x) = nm F.p (lin F.t (F.vs F.gen) (F.vec x))
  sh : ∀ y : Int, 0 ≤ y → y < (F.p : Int) ^ (F.t - 1) → F.mulc F.p y = (F.p : Int) * y
  hn : F.horn F.m = 0
  ml : F.m.length = F.t + 1
  mt : at0 F.m F.t = 1
  sm : F.q ≤ 128
  mr : ∀ c, c ∈ F.m → 0 ≤ c ∧ c < F.p
theorem facts : Facts F := by
  have h0 := h.ok
  unfold Fld.ok at h0
  obtain ⟨a1, h0⟩ := ba h0
  obtain ⟨a2, h0⟩ := ba h0
  obtain ⟨a3, h0⟩ := ba h0
  obtain ⟨a4, h0⟩ := ba h0
  obtain ⟨a5, h0⟩ := ba h0
  obtain ⟨a6, h0⟩ := ba h0
  obtain ⟨a7, h0⟩ := ba h0
  obtain ⟨a8, h0⟩ := ba h0
  obtain ⟨a9, h0⟩ := ba h0
  obtain ⟨b1, h0⟩ := ba h0
  obtain ⟨b2, h0⟩ := ba h0
  obtain ⟨b3, h0⟩ := ba h0
  obtain ⟨b4, b5⟩ := ba h0
  refine ⟨of_decide_eq_true a1, of_decide_eq_true a2, of_decide_eq_true a3, of_decide_eq_true a4, of_decide_eq_true a5, fun i h1 h2 => ?_, fun x h1 h2 => ?_, fun x h1 h2 => ?_, fun y h1 h2 => ?_, of_decide_eq_true b1, of_decide_eq_true b2, of_decide_eq_true b3, of_decide_eq_true b4, fun c hc => ?_⟩
  · obtain ⟨n, rfl⟩ := Int.eq_ofNat_of_zero_le h1
    obtain ⟨c1, c⟩ := ba (List.all_eq_true.mp a6 n (List.mem_range.mpr (by omega)))
    obtain ⟨c2, c3⟩ := ba c
    exact ⟨of_decide_eq_true c1, of_decide_eq_true c2, of_decide_eq_true c3⟩
  · obtain ⟨n, rfl⟩ := Int.eq_ofNat_of_zero_le (by omega : 0 ≤ x)
    rcases Bool.or_eq_true_iff.mp (List.all_eq_true.mp a7 n (List.mem_range.mpr (by omega))) with c | c
    · have := of_decide_eq_true c; omega
    · obtain ⟨c1, c⟩ := ba c
      obtain ⟨c2, c3⟩ := ba c
      exact ⟨of_decide_eq_true c1, of_decide_eq_true c2, of_decide_eq_true c3⟩
  · obtain ⟨n, rfl⟩ := Int.eq_ofNat_of_zero_le h1
    exact eq_of_beq (List.all_eq_true.mp a8 n (List.mem_range.mpr (by omega)))
  · obtain ⟨n, rfl⟩ := Int.eq_ofNat_of_zero_le h1
    have h3 : n < F.p ^ (F.t - 1) := by
      have := h2; rw [← Int.natCast_pow] at this; omega
    exact of_decide_eq_true (List.all_eq_true.mp a9 n (List.mem_range.mpr h3))
  · obtain ⟨c1, c2⟩ := ba (List.all_eq_true.mp b5 c hc)
    exact ⟨of_decide_eq_true c1, of_decide_eq_true c2⟩
end
/-! ### elements -/
def El (F : Fld) : Type := { x : Int // 0 ≤ x ∧ x < (F.q : Int) }
instance {F : Fld} : DecidableEq (El F) := inferInstanceAs (DecidableEq { x : Int // _ })
theorem El.ext {F : Fld} {a b : El F} (h : a.1 = b.1) : a = b := Subtype.ext h
section
variable {F : Fld} [h : FOk F]
theorem pp : 0 < (F.p : Int) := by have := (facts F).p2; omega
theorem qq : (F.q : Int) = (F.p : Int) ^ F.t := by unfold Fld.q; rw [Int.natCast_pow]
theorem q3 : 4 ≤ F.q := by
  have h1 := (facts F).p2
  have h2 := (facts F).t2
  unfold Fld.q
  calc 4 = 2 ^ 2 := rfl
    _ ≤ F.p ^ 2 := Nat.pow_le_pow_left h1 2
    _ ≤ F.p ^ F.t := Nat.pow_le_pow_right (by omega) h2
theorem vec_len {x : Int} : (F.vec x).length = F.t := dig_len
theorem vec_rg {x : Int} : Rg F.p (F.vec x) := dig_rg pp
theorem und_ok {l : List Int} (r : Rg F.p l) (e : l.length = F.t) : 0 ≤ und F.p l ∧ und F.p l < (F.q : Int) := by
  have := und_rg pp r
  rw [e] at this
  rw [qq]; exact this
theorem vec_und {l : List Int} (r : Rg F.p l) (e : l.length = F.t) : F.vec (und F.p l) = l := by
  unfold Fld.vec
  rw [← e]; exact dig_und pp r
theorem und_vec (a : El F) : und F.p (F.vec a.1) = a.1 := und_dig pp a.2.1 (by rw [← qq]; exact a.2.2)
theorem El.vext {a b : El F} (e : F.vec a.1 = F.vec b.1) : a = b := El.ext (by rw [← und_vec a, e, und_vec])
theorem zv_len {x y : Int} : (zp (F.vec x) (F.vec y)).length = F.t := by rw [zp_len (by rw [vec_len, vec_len]), vec_len]
def El.mk (l : List Int) (e : l.length = F.t) : El F := ⟨und F.p (nm F.p l), und_ok (nm_rg pp) (by rw [nm_len, e])⟩
theorem vec_mk {l : List Int} (e : l.length = F.t) : F.vec (El.mk (F := F) l e).1 = nm F.p l := vec_und (nm_rg pp) (by rw [nm_len, e])
def El.add (a b : El F) : El F := El.mk (zp (F.vec a.1) (F.vec b.1)) zv_len
def El.neg (a : El F) : El F := El.mk (ng (F.vec a.1)) (by rw [ng, List.length_map, vec_len])
def El.zero : El F := ⟨0, Int.le_refl 0, by have := q3 (F := F); omega⟩
def El.one : El F := ⟨1, by omega, by have := q3 (F := F); omega⟩
theorem p_lt : (F.p : Int) < F.q := by
  have h1 := (facts F).p2
  have h2 := (facts F).t2
  have : F.p ^ 1 < F.p ^ F.t := Nat.pow_lt_pow_right (by omega) (by omega)
  rw [Nat.pow_one] at this
  unfold Fld.q
  omega
def El.cast (n : Int) : El F := ⟨n % F.p, Int.emod_nonneg _ (by have := pp (F := F); omega), by have := Int.emod_lt_of_pos n (pp (F := F)); have := p_lt (F := F); omega⟩
theorem vec_add (a b : El F) : F.vec (El.add a b).1 = nm F.p (zp (F.vec a.1) (F.vec b.1)) := vec_mk _
theorem vec_neg (a : El F) : F.vec (El.neg a).1 = nm F.p (ng (F.vec a.1)) := vec_mk _
theorem vec_zero : F.vec (El.zero (F := F)).1 = zs F.t := dig_zero F.t
theorem t_succ : ∃ k, F.t = k + 1 := ⟨F.t - 1, by have := (facts F).t2; omega⟩
theorem vec_cast (n : Int) : F.vec (El.cast (F := F) n).1 = nm F.p (n :: zs (F.t - 1)) := by
  obtain ⟨k, e⟩ := t_succ (F := F)
  unfold Fld.vec El.cast
  rw [e]
  simp only [dig, Nat.add_sub_cancel]
  rw [Int.emod_emod, Int.ediv_eq_zero_of_lt (Int.emod_nonneg _ (by have := pp (F := F); omega)) (Int.emod_lt_of_pos n pp), dig_zero]
  show _ = (n % (F.p : Int)) :: nm F.p (zs k)
  rw [nm_zs]
theorem add_comm' (a b : El F) : El.add a b = El.add b a := El.vext (by rw [vec_add, vec_add, zp_comm])
theorem add_assoc' (a b c : El F) : El.add (El.add a b) c = El.add a (El.add b c) := El.vext (by rw [vec_add, vec_add, vec_add, vec_add, nm_zp, nm_zp2, zp_assoc])
theorem add_zero' (a : El F) : El.add a El.zero = a := El.vext (by rw [vec_add, vec_zero, zp_zs vec_len, nm_of vec_rg])
theorem neg_add' (a : El F) : El.add (El.neg a) a = El.zero := El.vext (by rw [vec_add, vec_neg, vec_zero, nm_zp, zp_ng vec_len, nm_zs])
theorem cast_add (m n : Int) : El.cast (F := F) (m + n) = El.add (El.cast m) (El.cast n) := El.vext (by
  rw [vec_add, vec_cast, vec_cast, vec_cast, nm_zp, nm_zp2]
  show _ = nm F.p ((m + n) :: zp (zs (F.t - 1)) (zs (F.t - 1)))
  rw [zp_zs (by simp [zs])])
theorem cast_zero : El.cast (F := F) 0 = El.zero := El.ext (by show (0 : Int) % _ = 0; simp)
theorem cast_one : El.cast (F := F) 1 = El.one := El.ext (by
  show (1 : Int) % (F.p : Int) = 1
  have := (facts F).p2
  exact Int.emod_eq_of_lt (by omega) (by omega))
/-! ### products -/
theorem lgn (a : El F) (e : a.1 ≠ 0) : 0 ≤ at0 F.lg a.1 ∧ at0 F.lg a.1 < (F.q : Int) - 1 ∧ at0 F.pw (at0 F.lg a.1) = a.1 := (facts F).lg_ a.1 (by have := a.2; omega) a.2.2
theorem rem_ok (n : Int) : 0 ≤ n % ((F.q : Int) - 1) ∧ n % ((F.q : Int) - 1) < (F.q : Int) - 1 := by
  have := q3 (F := F)
  exact ⟨Int.emod_nonneg _ (by omega), Int.emod_lt_of_pos _ (by omega)⟩
/-- the n-th power of the leader -/
def El.pow (n : Int) : El F := ⟨at0 F.pw (n % ((F.q : Int) - 1)), by
  obtain ⟨h1, h2⟩ := rem_ok (F := F) n
  have := (facts F).pw_ _ h1 h2
  omega⟩
theorem pow_ne (n : Int) : (El.pow (F := F) n).1 ≠ 0 := by
  obtain ⟨h1, h2⟩ := rem_ok (F := F) n
  have := (facts F).pw_ _ h1 h2
  show at0 F.pw _ ≠ 0
  omega
theorem lg_pow (n : Int) : at0 F.lg (El.pow (F := F) n).1 = n % ((F.q : Int) - 1) := by
  obtain ⟨h1, h2⟩ := rem_ok (F := F) n
  exact ((facts F).pw_ _ h1 h2).2.2
theorem pow_lg (a : El F) (e : a.1 ≠ 0) : El.pow (at0 F.lg a.1) = a := El.ext (by
  obtain ⟨h1, h2, h3⟩ := lgn a e
  show at0 F.pw (at0 F.lg a.1 % _) = a.1
  rw [Int.emod_eq_of_lt h1 h2, h3])
theorem pow_mod (n : Int) : El.pow (F := F) (n % ((F.q : Int) - 1)) = El.pow n := El.ext (by show at0 F.pw _ = at0 F.pw _; rw [Int.emod_emod])
theorem mul_ok (a b : El F) : 0 ≤ F.mulc a.1 b.1 ∧ F.mulc a.1 b.1 < (F.q : Int) := by
  unfold Fld.mulc
  split
  · have := q3 (F := F); omega
  · exact (El.pow (F := F) (at0 F.lg a.1 + at0 F.lg b.1)).2
def El.mul (a b : El F) : El F := ⟨F.mulc a.1 b.1, mul_ok a b⟩
theorem mul_z (a b : El F) (e : a.1 = 0 ∨ b.1 = 0) : El.mul a b = El.zero := El.ext (if_pos e)
theorem mul_pow (m n : Int) : El.mul (El.pow (F := F) m) (El.pow n) = El.pow (m + n) := El.ext (by
  show F.mulc _ _ = _
  unfold Fld.mulc
  rw [if_neg (fun z => z.elim (pow_ne m) (pow_ne n)), lg_pow, lg_pow]
  show _ = at0 F.pw _
  rw [← Int.add_emod])
theorem el_cases (a : El F) : a = El.zero ∨ ∃ n, a = El.pow n := by
  by_cases e : a.1 = 0
  · exact .inl (El.ext e)
  · exact .inr ⟨_, (pow_lg a e).symm⟩
theorem mul_comm' (a b : El F) : El.mul a b = El.mul b a := El.ext (by
  show F.mulc _ _ = F.mulc _ _
  unfold Fld.mulc
  rw [Int.add_comm]
  by_cases e : a.1 = 0 ∨ b.1 = 0
  · rw [if_pos e, if_pos e.symm]
  · rw [if_neg e, if_neg fun z => e z.symm])
theorem zero_mul' (a : El F) : El.mul El.zero a = El.zero := mul_z _ _ (.inl rfl)
theorem mul_zero' (a : El F) : El.mul a El.zero = El.zero := mul_z _ _ (.inr rfl)
theorem mul_assoc' (a b c : El F) : El.mul (El.mul a b) c = El.mul a (El.mul b c) := by
  rcases el_cases a with rfl | ⟨i, rfl⟩
  · rw [zero_mul', zero_mul', zero_mul']
  rcases el_cases b with rfl | ⟨j, rfl⟩
  · rw [mul_zero', zero_mul', mul_zero']
  rcases el_cases c with rfl | ⟨k, rfl⟩
  · rw [mul_zero', mul_zero', mul_zero']
  rw [mul_pow, mul_pow, mul_pow, mul_pow, Int.add_assoc]
theorem pow_zero' : El.pow (F := F) 0 = El.one := El.ext (by
  show at0 F.pw (0 % _) = 1
  rw [Int.zero_emod]; exact (facts F).one)
theorem one_mul' (a : El F) : El.mul El.one a = a := by
  rw [← pow_zero']
  rcases el_cases a with rfl | ⟨i, rfl⟩
  · rw [mul_zero']
  · rw [mul_pow, Int.zero_add]
/-- times the leader -/
def El.gen (a : El F) : El F := El.mul (El.pow 1) a
theorem gen_c (a : El F) : (El.gen a).1 = F.gen a.1 := by
  show F.mulc _ _ = _
  unfold Fld.mulc Fld.gen
  by_cases e : a.1 = 0
  · rw [if_pos (.inr e), if_pos e]
  · rw [if_neg (fun z => z.elim (pow_ne 1) e), if_neg e, lg_pow, Int.emod_add_emod, Int.add_comm 1]
theorem vs_len (G : Int → Int) : ∀ v, v ∈ F.vs G → v.length = F.t := fun v hv => by
  obtain ⟨k, _, rfl⟩ := List.mem_map.mp hv
  exact vec_len
theorem lin_additive {G : Int → Int} {g : El F → El F} (hg : ∀ a, (g a).1 = G a.1) (hl : ∀ x : Int, 0 ≤ x → x < F.q → F.vec (G x) = nm F.p (lin F.t (F.vs G) (F.vec x))) (a b : El F) : g (El.add a b) = El.add (g a) (g b) := El.vext (by
  rw [vec_add, hg, hg, hg, hl _ (El.add a b).2.1 (El.add a b).2.2, hl _ a.2.1 a.2.2, hl _ b.2.1 b.2.2, vec_add, nm_lin, lin_zp (by rw [vec_len, vec_len]) (vs_len G), nm_zp, nm_zp2])
theorem gen_add (a b : El F) : El.gen (El.add a b) = El.add (El.gen a) (El.gen b) := lin_additive gen_c (facts F).gl a b
theorem pow_distrib (a b : El F) : ∀ n : Nat, El.mul (El.pow n) (El.add a b) = El.add (El.mul (El.pow n) a) (El.mul (El.pow n) b)
  | 0 => by
    have e : El.pow (F := F) ((0 : Nat) : Int) = El.one := pow_zero'
    rw [e, one_mul', one_mul', one_mul']
  | n + 1 => by
    have e : El.pow (F := F) ((n + 1 : Nat) : Int) = El.mul (El.pow 1) (El.pow n) := by rw [mul_pow]; congr 1; omega
    rw [e, mul_assoc', mul_assoc', mul_assoc', pow_distrib a b n]
    exact gen_add _ _
theorem left_distrib' (a b c : El F) : El.mul a (El.add b c) = El.add (El.mul a b) (El.mul a c) := by
  by_cases e : a.1 = 0
  · have : a = El.zero := El.ext e
    subst this
    rw [zero_mul', zero_mul', zero_mul', add_zero']
  · obtain ⟨h1, _, _⟩ := lgn a e
    obtain ⟨n, hn⟩ := Int.eq_ofNat_of_zero_le h1
    rw [← pow_lg a e, hn]
    exact pow_distrib b c n
instance : Add (El F) := ⟨El.add⟩
instance : Mul (El F) := ⟨El.mul⟩
instance : Neg (El F) := ⟨El.neg⟩
instance : Sub (El F) := ⟨fun a b => El.add a (El.neg b)⟩
instance : NatCast (El F) := ⟨fun n => El.cast n⟩
instance : IntCast (El F) := ⟨fun n => El.cast n⟩
instance (n : Nat) : OfNat (El F) n := ⟨El.cast n⟩
instance : SMul Nat (El F) := ⟨fun n a => El.mul (El.cast n) a⟩
instance : SMul Int (El F) := ⟨fun n a => El.mul (El.cast n) a⟩
def El.npow (a : El F) : Nat → El F
  | 0 => El.cast (1 : Nat)
  | n + 1 => El.mul (El.npow a n) a
instance : HPow (El F) Nat (El F) := ⟨El.npow⟩
theorem zero_eq : (0 : El F) = El.zero := cast_zero
theorem one_eq : (1 : El F) = El.one := cast_one
theorem eq_neg {a b : El F} (h : El.add a b = El.zero) : a = El.neg b := by
  have : El.add (El.add a b) (El.neg b) = El.neg b := by rw [h, add_comm', add_zero']
  rw [add_assoc', add_comm' b, neg_add', add_zero'] at this
  exact this
theorem cast_neg (n : Int) : El.cast (F := F) (-n) = El.neg (El.cast n) := eq_neg (by rw [← cast_add, Int.add_left_neg, cast_zero])
theorem neg_mul' (a b : El F) : El.mul (El.neg a) b = El.neg (El.mul a b) := eq_neg (by
  rw [mul_comm' _ b, mul_comm' a b, ← left_distrib', neg_add', mul_zero'])
instance : Lean.Grind.CommRing (El F) where
  add_zero := fun a => by show El.add a (0 : El F) = a; rw [zero_eq, add_zero']
  add_comm := add_comm'
  add_assoc := add_assoc'
  mul_assoc := mul_assoc'
  mul_one := fun a => by show El.mul a (1 : El F) = a; rw [one_eq, mul_comm', one_mul']
  one_mul := fun a => by show El.mul (1 : El F) a = a; rw [one_eq, one_mul']
  left_distrib := left_distrib'
  right_distrib := fun a b c => by
    show El.mul (El.add a b) c = El.add (El.mul a c) (El.mul b c)
    rw [mul_comm', left_distrib', mul_comm' c, mul_comm' c]
  zero_mul := fun a => by show El.mul (0 : El F) a = (0 : El F); rw [zero_eq, zero_mul']
  mul_zero := fun a => by show El.mul a (0 : El F) = (0 : El F); rw [zero_eq, mul_zero']
  pow_zero := fun a => rfl
  pow_succ := fun a n => rfl
  ofNat_succ := fun n => by
    show El.cast ((n + 1 : Nat) : Int) = El.add (El.cast (n : Int)) (El.cast ((1 : Nat) : Int))
    rw [← cast_add]; rfl
  ofNat_eq_natCast := fun n => rfl
  nsmul_eq_natCast_mul := fun n a => rfl
  neg_add_cancel := fun a => by show El.add (El.neg a) a = (0 : El F); rw [zero_eq, neg_add']
  sub_eq_add_neg := fun a b => rfl
  neg_zsmul := fun i a => by show El.mul (El.cast (-i)) a = El.neg (El.mul (El.cast i) a); rw [cast_neg, neg_mul']
  zsmul_natCast_eq_nsmul := fun n a => rfl
  intCast_ofNat := fun n => rfl
  intCast_neg := fun i => cast_neg i
  mul_comm := mul_comm'
end
end Fq
end
section
set_option Elab.async false
set_option linter.all false
set_option maxRecDepth 100000
set_option maxHeartbeats 2000000
/-! FqC: quotients, polynomials at the letter. -/
namespace Fq
section
variable {F : Fld} [h : FOk F]
def El.dv (a b : El F) : El F := if a.1 = 0 then El.zero else El.pow (at0 F.lg a.1 - at0 F.lg b.1)
theorem dv_mul {a b : El F} (hb : b.1 ≠ 0) : El.mul (El.dv a b) b = a := by
  unfold El.dv
  split
  · rename_i e
    rw [zero_mul']
    exact (El.ext e).symm
  · rename_i e
    have e1 := pow_lg b hb
    have : El.mul (El.pow (F := F) (at0 F.lg a.1 - at0 F.lg b.1)) (El.pow (at0 F.lg b.1)) = El.pow (at0 F.lg a.1) := by
      rw [mul_pow]; congr 1; omega
    rw [e1] at this
    rw [this, pow_lg a e]
theorem zero_1 : (0 : El F).1 = 0 := by rw [zero_eq]; rfl
theorem one_1 : (1 : El F).1 = 1 := by rw [one_eq]; rfl
theorem el_ne {a : El F} : a ≠ 0 ↔ a.1 ≠ 0 := by
  constructor
  · intro hn e
    exact hn (by rw [zero_eq]; exact El.ext e)
  · intro hn e
    exact hn (by rw [e, zero_1])
theorem el_eq {a : El F} : a = 0 ↔ a.1 = 0 := by
  constructor
  · intro e; rw [e, zero_1]
  · intro e; exact El.ext (by rw [e, zero_1])
instance : Inv (El F) := ⟨fun a => if a.1 = 0 then 0 else El.dv 1 a⟩
instance : Div (El F) := ⟨fun a b => a * b⁻¹⟩
theorem inv_mul' {a : El F} (hn : a ≠ 0) : a⁻¹ * a = 1 := by
  show (if a.1 = 0 then 0 else El.dv 1 a) * a = 1
  rw [if_neg (el_ne.mp hn)]
  exact dv_mul (el_ne.mp hn)
theorem mul_inv' {a : El F} (hn : a ≠ 0) : a * a⁻¹ = 1 := by
  have := inv_mul' hn
  rw [Lean.Grind.CommSemiring.mul_comm] at this
  exact this
theorem one_ne : (1 : El F) ≠ 0 := el_ne.mpr (by rw [one_1]; decide)
theorem mul_cancel {a b c : El F} (hc : c ≠ 0) (e : a * c = b * c) : a = b := by
  have h1 := mul_inv' hc
  have h2 : a * c * c⁻¹ = b * c * c⁻¹ := by rw [e]
  have e1 : a * c * c⁻¹ = a * (c * c⁻¹) := by grind
  have e2 : b * c * c⁻¹ = b * (c * c⁻¹) := by grind
  rw [e1, e2, h1] at h2
  grind
theorem mul_ne {a b : El F} (ha : a ≠ 0) (hb : b ≠ 0) : a * b ≠ 0 := fun e => by
  have : a = 0 := mul_cancel hb (by rw [e]; grind)
  exact ha this
theorem dv_eq {a b : El F} (hb : b ≠ 0) : El.dv a b = a * b⁻¹ := mul_cancel hb (by
  have h1 : El.dv a b * b = a := dv_mul (el_ne.mp hb)
  have h2 := inv_mul' hb
  rw [h1]
  have : a * b⁻¹ * b = a * (b⁻¹ * b) := by grind
  rw [this, h2]; grind)
theorem inv_zero' : (0 : El F)⁻¹ = 0 := if_pos zero_1
theorem inv_inv' (a : El F) : a⁻¹⁻¹ = a := by
  by_cases e : a = 0
  · rw [e, inv_zero', inv_zero']
  · have h1 : a⁻¹ ≠ 0 := fun z => by
      have := mul_inv' e
      rw [z] at this
      have : (1 : El F) = 0 := by grind
      exact one_ne this
    have := inv_mul' h1
    have h2 := mul_inv' e
    exact mul_cancel h1 (by rw [this, h2])
def El.zpow (a : El F) : Int → El F
  | .ofNat n => a ^ n
  | .negSucc n => (a ^ (n + 1))⁻¹
instance : HPow (El F) Int (El F) := ⟨El.zpow⟩
theorem inv_one' : (1 : El F)⁻¹ = 1 := by
  have := mul_inv' (F := F) one_ne
  grind
instance : Lean.Grind.Field (El F) where
  div_eq_mul_inv := fun a b => rfl
  zero_ne_one := fun e => one_ne e.symm
  inv_zero := inv_zero'
  mul_inv_cancel := fun hn => mul_inv' hn
  zpow_zero := fun a => rfl
  zpow_succ := fun a n => rfl
  zpow_neg := fun a n => by
    match n with
    | .ofNat 0 => show (a ^ 0 : El F) = (a ^ 0)⁻¹; exact inv_one'.symm
    | .ofNat (k + 1) => rfl
    | .negSucc k => show (a ^ (k + 1) : El F) = ((a ^ (k + 1))⁻¹)⁻¹; rw [inv_inv']
/-! ### polynomials at the letter -/
def El.X : El F := ⟨F.p, by have := pp (F := F); have := p_lt (F := F); omega⟩
def El.ev : List Int → El F
  | [] => 0
  | c :: l => El.cast c + El.X * El.ev l
theorem ev_zs : ∀ n : Nat, El.ev (F := F) (zs n) = 0
  | 0 => rfl
  | n + 1 => by
    show El.cast 0 + El.X * El.ev (zs n) = 0
    rw [ev_zs n, cast_zero, ← zero_eq]
    grind
theorem cast_mod (n : Int) : El.cast (F := F) (n % F.p) = El.cast n := El.ext (by show (n % F.p) % F.p = n % F.p; rw [Int.emod_emod])
theorem ev_nm : ∀ l : List Int, El.ev (F := F) (nm F.p l) = El.ev l
  | [] => rfl
  | c :: l => by
    show El.cast (c % F.p) + El.X * El.ev (nm F.p l) = El.cast c + El.X * El.ev l
    rw [ev_nm l, cast_mod]
theorem vec_shift {y : Int} (h1 : 0 ≤ y) (h2 : y < (F.p : Int) ^ (F.t - 1)) : F.vec ((F.p : Int) * y) = 0 :: dig F.p (F.t - 1) y := by
  obtain ⟨k, e⟩ := t_succ (F := F)
  unfold Fld.vec
  rw [e]
  simp only [dig, Nat.add_sub_cancel]
  rw [Int.mul_emod_right, Int.mul_ediv_cancel_left _ (by have := pp (F := F); omega)]
theorem ev_code : ∀ l : List Int, l.length ≤ F.t → (El.ev (F := F) l).1 = und F.p (nm F.p l)
  | [], _ => zero_1
  | c :: l, hl => by
    have hl' : l.length ≤ F.t - 1 := by simp only [List.length_cons] at hl; omega
    have ih := ev_code l (by omega)
    obtain ⟨g1, g2⟩ := und_rg (p := (F.p : Int)) pp (nm_rg (l := l) pp)
    rw [nm_len] at g2
    have g3 : und F.p (nm F.p l) < (F.p : Int) ^ (F.t - 1) := by
      have : F.p ^ l.length ≤ F.p ^ (F.t - 1) := Nat.pow_le_pow_right (by have := (facts F).p2; omega) hl'
      rw [← Int.natCast_pow] at g2 ⊢
      omega
    have e1 : (El.X * El.ev l : El F).1 = (F.p : Int) * und F.p (nm F.p l) := by
      show F.mulc F.p (El.ev l).1 = _
      rw [ih]
      exact (facts F).sh _ g1 g3
    have e2 : (El.cast c + El.X * El.ev l : El F).1 = und F.p (nm F.p (zp (F.vec (El.cast (F := F) c).1) (F.vec (El.X * El.ev l : El F).1))) := rfl
    show (El.cast c + El.X * El.ev l : El F).1 = _
    rw [e2, vec_cast, e1, vec_shift g1 g3, nm_zp]
    have e3 : zp (c :: zs (F.t - 1)) (0 :: dig F.p (F.t - 1) (und F.p (nm F.p l))) = (c + 0) :: zp (zs (F.t - 1)) (dig F.p (F.t - 1) (und F.p (nm F.p l))) := rfl
    rw [e3, zp_comm, zp_zs dig_len, Int.add_zero]
    show c % F.p + F.p * und F.p (nm F.p (dig F.p (F.t - 1) _)) = c % F.p + F.p * und F.p (nm F.p l)
    rw [nm_of (dig_rg pp), und_dig pp g1 g3]
theorem ev_vec (a : El F) : El.ev (F.vec a.1) = a := El.ext (by
  rw [ev_code _ (by rw [vec_len]; exact Nat.le_refl _), nm_of vec_rg, und_vec])
theorem ev_one (c : Int) : El.ev (F := F) [c] = El.cast c := by
  show El.cast c + El.X * 0 = El.cast c
  grind
theorem ev_app : ∀ a b : List Int, El.ev (F := F) (a ++ b) = El.ev a + (El.X : El F) ^ a.length * El.ev b
  | [], b => by
    show El.ev b = 0 + (El.X : El F) ^ 0 * El.ev b
    grind
  | c :: a, b => by
    show El.cast (F := F) c + (El.X : El F) * El.ev (a ++ b) = (El.cast (F := F) c + (El.X : El F) * El.ev a) + (El.X : El F) ^ (a.length + 1) * El.ev b
    rw [ev_app a b]
    grind
theorem ev_set : ∀ (l : List Int) (i : Nat) (v : Int), i < l.length → El.ev (F := F) (l.set i v) = El.ev l + El.cast (v - l.getD i 0) * (El.X : El F) ^ i
  | c :: l, 0, v, _ => by
    show El.cast (F := F) v + (El.X : El F) * El.ev l = (El.cast (F := F) c + (El.X : El F) * El.ev l) + El.cast (v - c) * (El.X : El F) ^ 0
    have : El.cast (F := F) v = El.cast (F := F) c + El.cast (v - c) := by rw [show El.cast (F := F) c + El.cast (v - c) = El.cast (c + (v - c)) from (cast_add _ _).symm]; congr 1; omega
    rw [this]
    grind
  | c :: l, i + 1, v, hi => by
    have ih := ev_set l i v (by simpa using hi)
    show El.cast (F := F) c + (El.X : El F) * El.ev (l.set i v) = (El.cast (F := F) c + (El.X : El F) * El.ev l) + El.cast (v - l.getD i 0) * (El.X : El F) ^ (i + 1)
    rw [ih]
    grind
theorem horn_ev : ∀ l : List Int, F.horn l = (El.ev (F := F) l).1
  | [] => zero_1.symm
  | c :: l => by
    show F.addc (c % F.p) (F.mulc F.p (F.horn l)) = (El.cast c + El.X * El.ev l : El F).1
    rw [horn_ev l]; rfl
theorem ev_m : El.ev (F := F) F.m = 0 := el_eq.mpr (by rw [← horn_ev]; exact (facts F).hn)
theorem cast_mul (m n : Int) : El.cast (F := F) (m * n) = El.cast m * El.cast n := by
  have h1 := Lean.Grind.Ring.intCast_mul (α := El F) m n
  exact h1
theorem cast_sub (m n : Int) : El.cast (F := F) (m - n) = El.cast m - El.cast n := by
  have h1 := Lean.Grind.Ring.intCast_sub (α := El F) m n
  exact h1
end
end Fq
end
section
set_option Elab.async false
set_option linter.all false
set_option maxRecDepth 100000
set_option maxHeartbeats 2000000
/-! FqD: powers, turns, norms, traces. -/
namespace Fq
namespace Fld
variable (F : Fld)
def frb (x : Int) : Int := if x = 0 then 0 else at0 F.pw ((at0 F.lg x * F.p) % ((F.q : Int) - 1))
def okF : Bool := F.linB F.frb && ((List.range F.q).all fun x => decide (F.frb x = x) == decide (x < F.p))
end Fld
class FOk2 (F : Fld) : Prop extends FOk F where
  okF : F.okF = true
section
variable {F : Fld} [h : FOk F]
theorem pow_n (i : Int) : ∀ n : Nat, (El.pow (F := F) i) ^ n = El.pow (i * n)
  | 0 => by
    rw [Lean.Grind.Semiring.pow_zero, one_eq, ← pow_zero']
    congr 1; simp
  | n + 1 => by
    rw [Lean.Grind.Semiring.pow_succ, pow_n i n]
    show El.mul _ _ = _
    rw [mul_pow]
    congr 1
    rw [Int.natCast_succ, Int.mul_add, Int.mul_one]
theorem zero_pow' : ∀ {n : Nat}, n ≠ 0 → (0 : El F) ^ n = 0
  | 0, hn => absurd rfl hn
  | n + 1, _ => by rw [Lean.Grind.Semiring.pow_succ]; grind
/-- the power's place in the tables -/
theorem pow_code (a : El F) (ha : a.1 ≠ 0) (n : Nat) : (a ^ n).1 = at0 F.pw ((at0 F.lg a.1 * n) % ((F.q : Int) - 1)) := by
  have e := pow_lg a ha
  have e2 : (a ^ n) = (El.pow (F := F) (at0 F.lg a.1)) ^ n := by rw [e]
  rw [e2, pow_n]; rfl
theorem pow_q1 (a : El F) (ha : a ≠ 0) : a ^ (F.q - 1) = 1 := by
  have hq := q3 (F := F)
  have e := pow_lg a (el_ne.mp ha)
  rw [← e, pow_n, one_eq, ← pow_zero']
  apply El.ext
  show at0 F.pw _ = at0 F.pw _
  congr 1
  have e2 : ((F.q - 1 : Nat) : Int) = (F.q : Int) - 1 := by omega
  rw [e2, Int.mul_emod_left, Int.zero_emod]
theorem pow_q (a : El F) : a ^ F.q = a := by
  have hq := q3 (F := F)
  obtain ⟨k, hk⟩ : ∃ k, F.q = k + 1 := ⟨F.q - 1, by omega⟩
  by_cases ha : a = 0
  · rw [ha, zero_pow' (by omega)]
  · have := pow_q1 a ha
    rw [hk] at this ⊢
    rw [Lean.Grind.Semiring.pow_succ]
    rw [show k + 1 - 1 = k by omega] at this
    rw [this]; grind
/-- turned once -/
def El.fr (a : El F) : El F := a ^ F.p
theorem fr_code (a : El F) : (El.fr a).1 = F.frb a.1 := by
  unfold Fld.frb El.fr
  by_cases e : a.1 = 0
  · have hp := (facts F).p2
    rw [if_pos e, el_eq.mpr e, zero_pow' (by omega), zero_1]
  · rw [if_neg e, pow_code a e]
theorem mul_npow (a b : El F) : ∀ n : Nat, (a * b) ^ n = a ^ n * b ^ n
  | 0 => by rw [Lean.Grind.Semiring.pow_zero, Lean.Grind.Semiring.pow_zero, Lean.Grind.Semiring.pow_zero]; grind
  | n + 1 => by rw [Lean.Grind.Semiring.pow_succ, Lean.Grind.Semiring.pow_succ, Lean.Grind.Semiring.pow_succ, mul_npow a b n]; grind
theorem npow_mul (a : El F) (m : Nat) : ∀ n : Nat, a ^ (m * n) = (a ^ m) ^ n
  | 0 => by rw [Nat.mul_zero, Lean.Grind.Semiring.pow_zero, Lean.Grind.Semiring.pow_zero]
  | n + 1 => by rw [Nat.mul_succ, Lean.Grind.Semiring.pow_add, npow_mul a m n, Lean.Grind.Semiring.pow_succ]
theorem fr_mul (a b : El F) : El.fr (a * b) = El.fr a * El.fr b := mul_npow a b F.p
theorem fr_zero : El.fr (0 : El F) = 0 := zero_pow' (by have := (facts F).p2; omega)
theorem fr_one : El.fr (1 : El F) = 1 := by
  unfold El.fr
  have : ∀ n : Nat, (1 : El F) ^ n = 1 := Lean.Grind.Semiring.one_pow
  exact this _
/-- turned n times -/
def El.frn (a : El F) : Nat → El F
  | 0 => a
  | n + 1 => El.fr (El.frn a n)
theorem frn_pow (a : El F) : ∀ n : Nat, El.frn a n = a ^ (F.p ^ n)
  | 0 => by
    show a = a ^ (F.p ^ 0)
    rw [Nat.pow_zero, Lean.Grind.Semiring.pow_one]
  | n + 1 => by
    show (El.frn a n) ^ F.p = _
    rw [frn_pow a n, Nat.pow_succ, npow_mul]
theorem frn_t (a : El F) : El.frn a F.t = a := by rw [frn_pow]; exact pow_q a
theorem frn_add (a : El F) (m : Nat) : ∀ n : Nat, El.frn a (m + n) = El.frn (El.frn a m) n
  | 0 => rfl
  | n + 1 => by
    show El.fr (El.frn a (m + n)) = El.fr (El.frn (El.frn a m) n)
    rw [frn_add a m n]
theorem frn_tk (a : El F) : ∀ k : Nat, El.frn a (F.t * k) = a
  | 0 => rfl
  | k + 1 => by rw [Nat.mul_succ, frn_add, frn_tk a k, frn_t]
theorem frn_mod (a : El F) (n : Nat) : El.frn a (n % F.t) = El.frn a n := by
  have e : El.frn a n = El.frn a (F.t * (n / F.t) + n % F.t) := by rw [Nat.div_add_mod]
  rw [e, frn_add, frn_tk]
theorem frn_mul (a b : El F) : ∀ n : Nat, El.frn (a * b) n = El.frn a n * El.frn b n
  | 0 => rfl
  | n + 1 => by
    show El.fr (El.frn (a * b) n) = _
    rw [frn_mul a b n, fr_mul]; rfl
theorem frn_fr (a : El F) : ∀ n : Nat, El.frn (El.fr a) n = El.fr (El.frn a n)
  | 0 => rfl
  | n + 1 => by
    show El.fr (El.frn (El.fr a) n) = El.fr (El.fr (El.frn a n))
    rw [frn_fr a n]
theorem frn_zero : ∀ n : Nat, El.frn (0 : El F) n = 0
  | 0 => rfl
  | n + 1 => by show El.fr (El.frn 0 n) = 0; rw [frn_zero n, fr_zero]
theorem frn_one : ∀ n : Nat, El.frn (1 : El F) n = 1
  | 0 => rfl
  | n + 1 => by show El.fr (El.frn 1 n) = 1; rw [frn_one n, fr_one]
/-! ### norm, trace -/
/-- a times its turns, n in all -/
def El.nrm (a : El F) : Nat → El F
  | 0 => 1
  | n + 1 => El.nrm a n * El.frn a n
def El.trc (a : El F) : Nat → El F
  | 0 => 0
  | n + 1 => El.trc a n + El.frn a n
theorem nrm_shift (a : El F) : ∀ n : Nat, a * El.nrm (El.fr a) n = El.nrm a (n + 1)
  | 0 => by show a * 1 = 1 * a; grind
  | n + 1 => by
    show a * (El.nrm (El.fr a) n * El.frn (El.fr a) n) = El.nrm a (n + 1) * El.frn a (n + 1)
    rw [← nrm_shift a n, frn_fr]
    show a * (El.nrm (El.fr a) n * El.fr (El.frn a n)) = a * El.nrm (El.fr a) n * El.fr (El.frn a n)
    grind
theorem trc_shift (a : El F) : ∀ n : Nat, a + El.trc (El.fr a) n = El.trc a (n + 1)
  | 0 => by show a + 0 = 0 + a; grind
  | n + 1 => by
    show a + (El.trc (El.fr a) n + El.frn (El.fr a) n) = El.trc a (n + 1) + El.frn a (n + 1)
    rw [← trc_shift a n, frn_fr]
    show a + (El.trc (El.fr a) n + El.fr (El.frn a n)) = a + El.trc (El.fr a) n + El.fr (El.frn a n)
    grind
theorem nrm_mul (a b : El F) : ∀ n : Nat, El.nrm (a * b) n = El.nrm a n * El.nrm b n
  | 0 => by show (1 : El F) = 1 * 1; grind
  | n + 1 => by
    show El.nrm (a * b) n * El.frn (a * b) n = (El.nrm a n * El.frn a n) * (El.nrm b n * El.frn b n)
    rw [nrm_mul a b n, frn_mul]; grind
theorem fr_nrm (a : El F) : ∀ n : Nat, El.fr (El.nrm a n) = El.nrm (El.fr a) n
  | 0 => fr_one
  | n + 1 => by
    show El.fr (El.nrm a n * El.frn a n) = El.nrm (El.fr a) n * El.frn (El.fr a) n
    rw [fr_mul, fr_nrm a n, frn_fr]
/-- the norm does not change by turning -/
theorem nrm_fr (a : El F) : El.nrm (El.fr a) F.t = El.nrm a F.t := by
  by_cases ha : a = 0
  · rw [ha, fr_zero]
  · have h1 := nrm_shift a F.t
    have h2 : El.nrm a (F.t + 1) = El.nrm a F.t * a := by show El.nrm a F.t * El.frn a F.t = _; rw [frn_t]
    rw [h2] at h1
    exact mul_cancel ha (by rw [← h1]; grind)
theorem trc_fr (a : El F) : El.trc (El.fr a) F.t = El.trc a F.t := by
  have h1 := trc_shift a F.t
  have h2 : El.trc a (F.t + 1) = El.trc a F.t + a := by show El.trc a F.t + El.frn a F.t = _; rw [frn_t]
  rw [h2] at h1
  grind
theorem nrm_frn (a : El F) : ∀ n : Nat, El.nrm (El.frn a n) F.t = El.nrm a F.t
  | 0 => rfl
  | n + 1 => by show El.nrm (El.fr (El.frn a n)) F.t = _; rw [nrm_fr, nrm_frn a n]
theorem trc_frn (a : El F) : ∀ n : Nat, El.trc (El.frn a n) F.t = El.trc a F.t
  | 0 => rfl
  | n + 1 => by show El.trc (El.fr (El.frn a n)) F.t = _; rw [trc_fr, trc_frn a n]
end
section
variable {F : Fld} [h : FOk2 F]
theorem fr_add (a b : El F) : El.fr (a + b) = El.fr a + El.fr b := by
  have h0 := h.okF
  unfold Fld.okF at h0
  obtain ⟨h1, _⟩ := ba h0
  refine lin_additive (g := El.fr) fr_code (fun x hx hq => ?_) a b
  obtain ⟨n, rfl⟩ := Int.eq_ofNat_of_zero_le hx
  exact eq_of_beq (List.all_eq_true.mp h1 n (List.mem_range.mpr (by omega)))
/-- the elements that stay are the figures -/
theorem fr_fix (a : El F) : El.fr a = a ↔ a.1 < F.p := by
  have h0 := h.okF
  unfold Fld.okF at h0
  obtain ⟨_, h2⟩ := ba h0
  have h3 := List.all_eq_true.mp h2 a.1.toNat (List.mem_range.mpr (by have := a.2; omega))
  have e : ((a.1.toNat : Nat) : Int) = a.1 := Int.toNat_of_nonneg a.2.1
  rw [e] at h3
  have h4 := eq_of_beq h3
  rw [← fr_code] at h4
  have h5 : (a.1.toNat < F.p) ↔ a.1 < (F.p : Int) := by have := a.2.1; omega
  constructor
  · intro q
    rw [q, decide_eq_true rfl] at h4
    exact h5.mp (of_decide_eq_true h4.symm)
  · intro q
    rw [decide_eq_true (h5.mpr q)] at h4
    exact El.ext (of_decide_eq_true h4)
theorem frn_addE (a b : El F) : ∀ n : Nat, El.frn (a + b) n = El.frn a n + El.frn b n
  | 0 => rfl
  | n + 1 => by
    show El.fr (El.frn (a + b) n) = El.fr (El.frn a n) + El.fr (El.frn b n)
    rw [frn_addE a b n, fr_add]
theorem trc_add (a b : El F) : ∀ n : Nat, El.trc (a + b) n = El.trc a n + El.trc b n
  | 0 => by show (0 : El F) = 0 + 0; grind
  | n + 1 => by
    show El.trc (a + b) n + El.frn (a + b) n = (El.trc a n + El.frn a n) + (El.trc b n + El.frn b n)
    rw [trc_add a b n, frn_addE]; grind
theorem fr_trc (a : El F) : ∀ n : Nat, El.fr (El.trc a n) = El.trc (El.fr a) n
  | 0 => fr_zero
  | n + 1 => by
    show El.fr (El.trc a n + El.frn a n) = El.trc (El.fr a) n + El.frn (El.fr a) n
    rw [fr_add, fr_trc a n, frn_fr]
theorem nrm_fig (a : El F) : (El.nrm a F.t).1 < F.p := (fr_fix _).mp (by rw [fr_nrm, nrm_fr])
theorem trc_fig (a : El F) : (El.trc a F.t).1 < F.p := (fr_fix _).mp (by rw [fr_trc, trc_fr])
end
/-! ### figures as elements -/
section
variable {F : Fld} [h : FOk F]
theorem cast_of {a : El F} (ha : a.1 < F.p) : El.cast a.1 = a := El.ext (Int.emod_eq_of_lt a.2.1 ha)
theorem cast_1 (n : Int) : (El.cast (F := F) n).1 = n % F.p := rfl
theorem fig_mul {a b : El F} (ha : a.1 < F.p) (hb : b.1 < F.p) : (a * b).1 = a.1 * b.1 % F.p := by
  have e : a * b = El.cast (a.1 * b.1) := by rw [cast_mul, cast_of ha, cast_of hb]
  rw [e, cast_1]
theorem fig_add {a b : El F} (ha : a.1 < F.p) (hb : b.1 < F.p) : (a + b).1 = (a.1 + b.1) % F.p := by
  have e : a + b = El.cast (a.1 + b.1) := by
    rw [show El.cast (F := F) (a.1 + b.1) = El.cast a.1 + El.cast b.1 from cast_add _ _, cast_of ha, cast_of hb]
  rw [e, cast_1]
end
end Fq
end
section
set_option Elab.async false
set_option linter.all false
set_option maxRecDepth 100000
/-! FqF: the fields that the laws draw. -/
namespace Fq
def f0 : Fld := ⟨2, 2, [1, 1, 1], [1, 2, 3], [-1, 0, 1, 2]⟩
theorem f0_ok : f0.ok = true := by decide +kernel
def f1 : Fld := ⟨2, 3, [1, 1, 0, 1], [1, 2, 4, 3, 6, 7, 5], [-1, 0, 1, 3, 2, 6, 4, 5]⟩
theorem f1_ok : f1.ok = true := by decide +kernel
def f2 : Fld := ⟨2, 3, [1, 0, 1, 1], [1, 2, 4, 5, 7, 3, 6], [-1, 0, 1, 5, 2, 3, 6, 4]⟩
theorem f2_ok : f2.ok = true := by decide +kernel
def f3 : Fld := ⟨2, 4, [1, 1, 0, 0, 1], [1, 2, 4, 8, 3, 6, 12, 11, 5, 10, 7, 14, 15, 13, 9], [-1, 0, 1, 4, 2, 8, 5, 10, 3, 14, 9, 7, 6, 13, 11, 12]⟩
theorem f3_ok : f3.ok = true := by decide +kernel
def f4 : Fld := ⟨3, 2, [1, 0, 1], [1, 4, 6, 7, 2, 8, 3, 5], [-1, 0, 4, 6, 1, 7, 2, 3, 5]⟩
theorem f4_ok : f4.ok = true := by decide +kernel
def f5 : Fld := ⟨3, 2, [2, 1, 1], [1, 3, 7, 8, 2, 6, 5, 4], [-1, 0, 4, 1, 7, 6, 5, 2, 3]⟩
theorem f5_ok : f5.ok = true := by decide +kernel
def f6 : Fld := ⟨5, 2, [2, 0, 1], [1, 6, 14, 5, 8, 21, 3, 18, 7, 15, 19, 13, 4, 24, 16, 20, 22, 9, 2, 12, 23, 10, 11, 17], [-1, 0, 18, 6, 12, 3, 1, 8, 4, 17, 21, 22, 19, 11, 2, 9, 14, 23, 7, 10, 15, 5, 16, 20, 13]⟩
theorem f6_ok : f6.ok = true := by decide +kernel
def f7 : Fld := ⟨2, 5, [1, 0, 1, 0, 0, 1], [1, 2, 4, 8, 16, 5, 10, 20, 13, 26, 17, 7, 14, 28, 29, 31, 27, 19, 3, 6, 12, 24, 21, 15, 30, 25, 23, 11, 22, 9, 18], [-1, 0, 1, 18, 2, 5, 19, 11, 3, 29, 6, 27, 20, 8, 12, 23, 4, 10, 30, 17, 7, 22, 28, 26, 21, 25, 9, 16, 13, 14, 24, 15]⟩
theorem f7_ok : f7.ok = true := by decide +kernel
def f8 : Fld := ⟨2, 6, [1, 1, 0, 0, 0, 0, 1], [1, 2, 4, 8, 16, 32, 3, 6, 12, 24, 48, 35, 5, 10, 20, 40, 19, 38, 15, 30, 60, 59, 53, 41, 17, 34, 7, 14, 28, 56, 51, 37, 9, 18, 36, 11, 22, 44, 27, 54, 47, 29, 58, 55, 45, 25, 50, 39, 13, 26, 52, 43, 21, 42, 23, 46, 31, 62, 63, 61, 57, 49, 33], [-1, 0, 1, 6, 2, 12, 7, 26, 3, 32, 13, 35, 8, 48, 27, 18, 4, 24, 33, 16, 14, 52, 36, 54, 9, 45, 49, 38, 28, 41, 19, 56, 5, 62, 25, 11, 34, 31, 17, 47, 15, 23, 53, 51, 37, 44, 55, 40, 10, 61, 46, 30, 50, 22, 39, 43, 29, 60, 42, 21, 20, 59, 57, 58]⟩
theorem f8_ok : f8.ok = true := by decide +kernel
def f9 : Fld := ⟨3, 3, [1, 2, 0, 1], [1, 3, 9, 5, 15, 23, 13, 17, 20, 4, 12, 14, 11, 2, 6, 18, 7, 21, 16, 26, 22, 10, 8, 24, 25, 19], [-1, 0, 13, 1, 9, 3, 14, 16, 22, 2, 21, 12, 10, 6, 11, 4, 18, 7, 15, 25, 8, 17, 20, 5, 23, 24, 19]⟩
theorem f9_ok : f9.ok = true := by decide +kernel
def f10 : Fld := ⟨7, 2, [1, 0, 1], [1, 9, 31, 30, 21, 46, 16, 44, 5, 38, 43, 45, 7, 20, 24, 17, 4, 29, 19, 15, 35, 23, 8, 22, 6, 47, 25, 26, 28, 10, 40, 12, 2, 18, 13, 11, 42, 36, 32, 39, 3, 27, 37, 41, 14, 33, 48, 34], [-1, 0, 32, 40, 16, 8, 24, 12, 22, 1, 29, 35, 31, 34, 44, 19, 6, 15, 33, 18, 13, 4, 23, 21, 14, 26, 27, 41, 28, 17, 3, 2, 38, 45, 47, 20, 37, 42, 9, 39, 30, 43, 36, 10, 7, 11, 5, 25, 46]⟩
theorem f10_ok : f10.ok = true := by decide +kernel
def f11 : Fld := ⟨5, 3, [1, 1, 0, 1], [1, 9, 41, 63, 20, 105, 51, 97, 25, 124, 7, 33, 6, 29, 115, 116, 120, 11, 74, 69, 49, 95, 42, 67, 36, 43, 71, 52, 76, 66, 32, 2, 13, 57, 121, 15, 85, 102, 44, 50, 93, 14, 61, 12, 53, 80, 82, 90, 22, 118, 108, 68, 40, 59, 109, 72, 56, 117, 104, 27, 107, 64, 4, 21, 114, 92, 5, 45, 79, 58, 100, 31, 23, 122, 24, 101, 35, 39, 30, 19, 81, 86, 106, 55, 113, 88, 119, 112, 84, 78, 54, 89, 123, 3, 17, 98, 34, 10, 65, 28, 111, 75, 62, 16, 94, 18, 77, 70, 73, 60, 8, 37, 47, 87, 110, 96, 46, 83, 99, 38, 26, 103, 48, 91], [-1, 0, 31, 93, 62, 66, 12, 10, 110, 1, 97, 17, 43, 32, 41, 35, 103, 94, 105, 79, 4, 63, 48, 72, 74, 8, 120, 59, 99, 13, 78, 71, 30, 11, 96, 76, 24, 111, 119, 77, 52, 2, 22, 25, 38, 67, 116, 112, 122, 20, 39, 6, 27, 44, 90, 83, 56, 33, 69, 53, 109, 42, 102, 3, 61, 98, 29, 23, 51, 19, 107, 26, 55, 108, 18, 101, 28, 106, 89, 68, 45, 80, 46, 117, 88, 36, 81, 113, 85, 91, 47, 123, 65, 40, 104, 21, 115, 7, 95, 118, 70, 75, 37, 121, 58, 5, 82, 60, 50, 54, 114, 100, 87, 84, 64, 14, 15, 57, 49, 86, 16, 34, 73, 92, 9]⟩
theorem f11_ok : f11.ok = true := by decide +kernel
def f12 : Fld := ⟨2, 7, [1, 1, 0, 0, 0, 0, 0, 1], [1, 2, 4, 8, 16, 32, 64, 3, 6, 12, 24, 48, 96, 67, 5, 10, 20, 40, 80, 35, 70, 15, 30, 60, 120, 115, 101, 73, 17, 34, 68, 11, 22, 44, 88, 51, 102, 79, 29, 58, 116, 107, 85, 41, 82, 39, 78, 31, 62, 124, 123, 117, 105, 81, 33, 66, 7, 14, 28, 56, 112, 99, 69, 9, 18, 36, 72, 19, 38, 76, 27, 54, 108, 91, 53, 106, 87, 45, 90, 55, 110, 95, 61, 122, 119, 109, 89, 49, 98, 71, 13, 26, 52, 104, 83, 37, 74, 23, 46, 92, 59, 118, 111, 93, 57, 114, 103, 77, 25, 50, 100, 75, 21, 42, 84, 43, 86, 47, 94, 63, 126, 127, 125, 121, 113, 97, 65], [-1, 0, 1, 7, 2, 14, 8, 56, 3, 63, 15, 31, 9, 90, 57, 21, 4, 28, 64, 67, 16, 112, 32, 97, 10, 108, 91, 70, 58, 38, 22, 47, 5, 54, 29, 19, 65, 95, 68, 45, 17, 43, 113, 115, 33, 77, 98, 117, 11, 87, 109, 35, 92, 74, 71, 79, 59, 104, 39, 100, 23, 82, 48, 119, 6, 126, 55, 13, 30, 62, 20, 89, 66, 27, 96, 111, 69, 107, 46, 37, 18, 53, 44, 94, 114, 42, 116, 76, 34, 86, 78, 73, 99, 103, 118, 81, 12, 125, 88, 61, 110, 26, 36, 106, 93, 52, 75, 41, 72, 85, 80, 102, 60, 124, 105, 25, 40, 51, 101, 84, 24, 123, 83, 50, 49, 122, 120, 121]⟩
theorem f12_ok : f12.ok = true := by decide +kernel
def f13 : Fld := ⟨3, 4, [2, 1, 0, 0, 1], [1, 3, 9, 27, 7, 21, 63, 32, 13, 39, 43, 46, 55, 8, 24, 72, 59, 11, 33, 25, 75, 68, 38, 31, 10, 30, 16, 48, 70, 53, 76, 71, 47, 58, 17, 51, 79, 80, 74, 56, 2, 6, 18, 54, 5, 15, 45, 61, 26, 78, 77, 65, 29, 4, 12, 36, 34, 19, 57, 14, 42, 52, 73, 62, 20, 60, 23, 69, 50, 67, 44, 49, 64, 35, 22, 66, 41, 40, 37, 28], [-1, 0, 40, 1, 53, 44, 41, 4, 13, 2, 24, 17, 54, 8, 59, 45, 26, 34, 42, 57, 64, 5, 74, 66, 14, 19, 48, 3, 79, 52, 25, 23, 7, 18, 56, 73, 55, 78, 22, 9, 77, 76, 60, 10, 70, 46, 11, 32, 27, 71, 68, 35, 61, 29, 43, 12, 39, 58, 33, 16, 65, 47, 63, 6, 72, 51, 75, 69, 21, 67, 28, 31, 15, 62, 38, 20, 30, 50, 49, 36, 37]⟩
theorem f13_ok : f13.ok = true := by decide +kernel
def flds : List Fld := [f0, f1, f2, f3, f4, f5, f6, f7, f8, f9, f10, f11, f12, f13]
theorem flds_ok {F : Fld} (h : F ∈ flds) : FOk F := ⟨by
  simp only [flds, List.mem_cons, List.not_mem_nil, or_false] at h
  rcases h with rfl | rfl | rfl | rfl | rfl | rfl | rfl | rfl | rfl | rfl | rfl | rfl | rfl | rfl
  · exact f0_ok
  · exact f1_ok
  · exact f2_ok
  · exact f3_ok
  · exact f4_ok
  · exact f5_ok
  · exact f6_ok
  · exact f7_ok
  · exact f8_ok
  · exact f9_ok
  · exact f10_ok
  · exact f11_ok
  · exact f12_ok
  · exact f13_ok⟩
end Fq
end
section
set_option Elab.async false
set_option linter.all false
set_option maxRecDepth 100000
set_option maxHeartbeats 1000000
/-! FqT: lists of figures without noughts at the end. -/
namespace Fq
def trim : List Int → List Int
  | [] => []
  | a :: l => match trim l with
    | [] => if a = 0 then [] else [a]
    | b :: r => a :: b :: r
theorem trim_cons (a : Int) (l : List Int) : trim (a :: l) = if trim l = [] then (if a = 0 then [] else [a]) else a :: trim l := by
  show (match trim l with
    | [] => if a = 0 then [] else [a]
    | b :: r => a :: b :: r) = _
  cases trim l with
  | nil => rfl
  | cons b r => rfl
theorem trim_0 : ∀ l : List Int, trim (l ++ [0]) = trim l
  | [] => rfl
  | a :: l => by
    rw [List.cons_append, trim_cons, trim_cons, trim_0 l]
theorem trim_n {c : Int} (hc : c ≠ 0) : ∀ l : List Int, trim (l ++ [c]) = l ++ [c]
  | [] => by show (if c = 0 then [] else [c]) = [c]; rw [if_neg hc]
  | a :: l => by
    rw [List.cons_append, trim_cons, trim_n hc l, if_neg (by simp)]
theorem trim_zs : ∀ (k : Nat) (l : List Int), trim (l ++ zs k) = trim l
  | 0, l => by simp [zs]
  | k + 1, l => by
    have e : zs (k + 1) = [0] ++ zs k := rfl
    rw [e, ← List.append_assoc, trim_zs k, trim_0]
theorem trim_z0 (k : Nat) : trim (zs k) = [] := by
  have := trim_zs k []
  exact this
theorem trim_len : ∀ l : List Int, (trim l).length ≤ l.length
  | [] => Nat.le_refl 0
  | a :: l => by
    have ih := trim_len l
    rw [trim_cons]
    split
    · split
      · simp
      · simp
    · simp; exact ih
theorem trim_rg {p : Int} : ∀ {l : List Int}, Rg p l → Rg p (trim l)
  | [], h => h
  | a :: l, h => by
    have ih := trim_rg h.tail
    rw [trim_cons]
    split
    · split
      · intro d hd; cases hd
      · intro d hd
        simp only [List.mem_singleton] at hd
        subst hd; exact h.head
    · intro d hd
      rcases List.mem_cons.mp hd with rfl | hd
      · exact h.head
      · exact ih d hd
theorem trim_trim : ∀ l : List Int, trim (trim l) = trim l
  | [] => rfl
  | a :: l => by
    have ih := trim_trim l
    rw [trim_cons]
    split
    · split
      · rfl
      · rename_i hz; show (if a = 0 then [] else [a]) = [a]; rw [if_neg hz]
    · rename_i hz
      rw [trim_cons, ih, if_neg hz]
/-- the last one of a list without noughts at the end -/
theorem trim_last {l : List Int} (h : trim l = l) (hn : l ≠ []) : ∃ r c, l = r ++ [c] ∧ c ≠ 0 := by
  refine ⟨l.dropLast, l.getLast hn, (List.dropLast_concat_getLast hn).symm, fun e => ?_⟩
  have e1 : l = l.dropLast ++ [0] := by rw [← e]; exact (List.dropLast_concat_getLast hn).symm
  have e2 : trim l = trim l.dropLast := by
    have := trim_0 l.dropLast
    rw [← e1] at this
    exact this
  have h1 := trim_len l.dropLast
  rw [← e2, h] at h1
  have h2 : 0 < l.length := List.length_pos_iff.mpr hn
  rw [List.length_dropLast] at h1
  omega
section
variable {F : Fld} [h : FOk F]
theorem ev_trim : ∀ l : List Int, El.ev (F := F) (trim l) = El.ev l
  | [] => rfl
  | a :: l => by
    have ih := ev_trim l
    rw [trim_cons]
    split
    · rename_i e
      rw [e] at ih
      have ih : (0 : El F) = El.ev l := ih
      split
      · rename_i z
        show (0 : El F) = El.cast a + El.X * El.ev l
        rw [← ih, z, cast_zero, ← zero_eq]; grind
      · show El.cast (F := F) a + El.X * (0 : El F) = El.cast a + El.X * El.ev l
        rw [← ih]
    · show El.cast (F := F) a + El.X * El.ev (trim l) = El.cast a + El.X * El.ev l
      rw [ih]
theorem dig_pad {p : Int} (hp : 0 < p) : ∀ {l : List Int} {n : Nat}, Rg p l → l.length ≤ n → dig p n (und p l) = l ++ zs (n - l.length)
  | [], n, _, _ => by simp [und, dig_zero]
  | d :: l, 0, _, hl => by simp at hl
  | d :: l, n + 1, hr, hl => by
    obtain ⟨h3, h4⟩ := hr.head
    simp only [List.length_cons] at hl
    have ih := dig_pad hp (l := l) (n := n) hr.tail (by omega)
    have e1 : (d + p * und p l) % p = d := by rw [Int.add_mul_emod_self_left]; exact Int.emod_eq_of_lt h3 h4
    have e2 : (d + p * und p l) / p = und p l := by
      rw [Int.add_mul_ediv_left _ _ (by omega), Int.ediv_eq_zero_of_lt h3 h4, Int.zero_add]
    simp only [dig, und, e1, e2, ih, List.cons_append, List.length_cons]
    rw [show n + 1 - (l.length + 1) = n - l.length by omega]
/-- an element's figures, no noughts at the end -/
def El.tv (a : El F) : List Int := trim (F.vec a.1)
theorem tv_rg (a : El F) : Rg F.p (El.tv a) := trim_rg vec_rg
theorem tv_len (a : El F) : (El.tv a).length ≤ F.t := by have := trim_len (F.vec a.1); rw [vec_len] at this; exact this
theorem tv_trim (a : El F) : trim (El.tv a) = El.tv a := trim_trim _
theorem ev_tv (a : El F) : El.ev (El.tv a) = a := by unfold El.tv; rw [ev_trim, ev_vec]
theorem tv_of {l : List Int} (hr : Rg F.p l) (ht : trim l = l) (hl : l.length ≤ F.t) : El.tv (El.ev (F := F) l) = l := by
  have e := ev_code (F := F) l hl
  rw [nm_of hr] at e
  unfold El.tv Fld.vec
  rw [e, dig_pad pp hr hl, trim_zs, ht]
theorem und_tv (a : El F) : und F.p (El.tv a) = a.1 := by
  have e := ev_code (F := F) (El.tv a) (tv_len a)
  rw [nm_of (tv_rg a), ev_tv] at e
  exact e.symm
theorem tv_inj {a b : El F} (e : El.tv a = El.tv b) : a = b := by rw [← ev_tv a, e, ev_tv]
theorem tv_one : El.tv (1 : El F) = [1] := by
  have hp := (facts F).p2
  have ht := (facts F).t2
  have e : El.ev (F := F) [1] = 1 := by rw [ev_one, cast_one, ← one_eq]
  rw [← e]
  exact tv_of (fun d hd => by simp only [List.mem_singleton] at hd; omega) rfl (by simp; omega)
theorem tv_ne {a : El F} (ha : a ≠ 0) : El.tv a ≠ [] := fun e => ha (by
  have := ev_tv a
  rw [e] at this
  exact this.symm)
/-- the powers of g from x on, until 1 comes, by the tables -/
def Fld.pwc (F : Fld) : Nat → Int → Int → List Int
  | 0, _, _ => []
  | n + 1, x, g => if x = 1 then [] else x :: F.pwc n (F.mulc x g) g
/-- the first number from n on whose powers are all, its powers -/
def Fld.srch (F : Fld) : Nat → Int → List Int
  | 0, _ => []
  | k + 1, n => if (1 :: F.pwc 290 n n).length < F.q - 1 then F.srch k (n + 1) else 1 :: F.pwc 290 n n
end
end Fq
end
section
set_option Elab.async false
set_option linter.all false
set_option maxRecDepth 100000
/-! FqG: the turns of the 14 fields. -/
namespace Fq
theorem f0_okF : f0.okF = true := by decide +kernel
theorem f1_okF : f1.okF = true := by decide +kernel
theorem f2_okF : f2.okF = true := by decide +kernel
theorem f3_okF : f3.okF = true := by decide +kernel
theorem f4_okF : f4.okF = true := by decide +kernel
theorem f5_okF : f5.okF = true := by decide +kernel
theorem f6_okF : f6.okF = true := by decide +kernel
theorem f7_okF : f7.okF = true := by decide +kernel
theorem f8_okF : f8.okF = true := by decide +kernel
theorem f9_okF : f9.okF = true := by decide +kernel
theorem f10_okF : f10.okF = true := by decide +kernel
theorem f11_okF : f11.okF = true := by decide +kernel
theorem f12_okF : f12.okF = true := by decide +kernel
theorem f13_okF : f13.okF = true := by decide +kernel
theorem flds_okF {F : Fld} (h : F ∈ flds) : F.okF = true := by
  simp only [flds, List.mem_cons, List.not_mem_nil, or_false] at h
  rcases h with rfl | rfl | rfl | rfl | rfl | rfl | rfl | rfl | rfl | rfl | rfl | rfl | rfl | rfl
  · exact f0_okF
  · exact f1_okF
  · exact f2_okF
  · exact f3_okF
  · exact f4_okF
  · exact f5_okF
  · exact f6_okF
  · exact f7_okF
  · exact f8_okF
  · exact f9_okF
  · exact f10_okF
  · exact f11_okF
  · exact f12_okF
  · exact f13_okF
theorem flds_ok2 {F : Fld} (h : F ∈ flds) : FOk2 F := { toFOk := flds_ok h, okF := flds_okF h }
section
variable {F : Fld} [h : FOk2 F]
theorem frn_fix {a : El F} (ha : a.1 < F.p) : ∀ n : Nat, El.frn a n = a
  | 0 => rfl
  | n + 1 => by show El.fr (El.frn a n) = a; rw [frn_fix ha n]; exact (fr_fix a).mpr ha
theorem nrm_fix {a : El F} (ha : a.1 < F.p) : ∀ n : Nat, El.nrm a n = a ^ n
  | 0 => (Lean.Grind.Semiring.pow_zero a).symm
  | n + 1 => by show El.nrm a n * El.frn a n = a ^ (n + 1); rw [nrm_fix ha n, frn_fix ha, Lean.Grind.Semiring.pow_succ]
theorem trc_fix {a : El F} (ha : a.1 < F.p) : ∀ n : Nat, El.trc a n = El.cast ((n : Int) * a.1)
  | 0 => by show (0 : El F) = _; rw [show ((0 : Nat) : Int) * a.1 = 0 by simp, cast_zero, zero_eq]
  | n + 1 => by
    show El.trc a n + El.frn a n = _
    rw [trc_fix ha n, frn_fix ha]
    have e : ((n + 1 : Nat) : Int) * a.1 = (n : Int) * a.1 + a.1 := by rw [Int.natCast_succ, Int.add_mul, Int.one_mul]
    rw [e, show El.cast (F := F) ((n : Int) * a.1 + a.1) = El.cast ((n : Int) * a.1) + El.cast a.1 from cast_add _ _, cast_of ha]
end
end Fq
end
section
set_option Elab.async false
set_option linter.all false
set_option maxRecDepth 100000
set_option maxHeartbeats 2000000
/-! FqS: turn sums: their numbers as functions of the place; put into one another, worths. -/
namespace Fq
section
variable {F : Fld} [h : FOk2 F]
/-- a turn's step on functions -/
structure Stp {K : Type} (S : (K → El F) → K → El F) : Prop where
  zero : S (fun _ => 0) = fun _ => 0
  add : ∀ a b, S (fun k => a k + b k) = fun k => S a k + S b k
  mul : ∀ c a, S (fun k => c * a k) = fun k => El.fr c * S a k
def itS {K : Type} (S : (K → El F) → K → El F) : Nat → (K → El F) → K → El F
  | 0, m => m
  | n + 1, m => S (itS S n m)
def An {K : Type} (S : (K → El F) → K → El F) (u : Nat → El F) : Nat → (K → El F) → K → El F
  | 0, _ => fun _ => 0
  | n + 1, m => fun k => An S u n m k + u n * itS S n m k
section
variable {K : Type} {S : (K → El F) → K → El F}
theorem itS_s (m : K → El F) : ∀ n : Nat, itS S n (S m) = itS S (n + 1) m
  | 0 => rfl
  | n + 1 => by show S (itS S n (S m)) = S (itS S (n + 1) m); rw [itS_s m n]
theorem An_cons (u : Nat → El F) (m : K → El F) (k : K) : ∀ n : Nat, An S u (n + 1) m k = u 0 * m k + An S (fun i => u (i + 1)) n (S m) k
  | 0 => by show (0 : El F) + u 0 * m k = u 0 * m k + 0; grind
  | n + 1 => by
    have ih := An_cons u m k n
    show An S u (n + 1) m k + u (n + 1) * itS S (n + 1) m k = u 0 * m k + (An S (fun i => u (i + 1)) n (S m) k + u (n + 1) * itS S n (S m) k)
    rw [ih, itS_s]; grind
theorem An_ext {u v : Nat → El F} (m : K → El F) (k : K) : ∀ n : Nat, (∀ i, i < n → u i = v i) → An S u n m k = An S v n m k
  | 0, _ => rfl
  | n + 1, e => by
    show An S u n m k + u n * _ = An S v n m k + v n * _
    rw [An_ext m k n (fun i hi => e i (by omega)), e n (by omega)]
theorem An_addu (u v : Nat → El F) (m : K → El F) (k : K) : ∀ n : Nat, An S (fun i => u i + v i) n m k = An S u n m k + An S v n m k
  | 0 => by show (0 : El F) = 0 + 0; grind
  | n + 1 => by
    show An S (fun i => u i + v i) n m k + (u n + v n) * itS S n m k = An S u n m k + u n * itS S n m k + (An S v n m k + v n * itS S n m k)
    rw [An_addu u v m k n]; grind
theorem An_mulu (c : El F) (u : Nat → El F) (m : K → El F) (k : K) : ∀ n : Nat, An S (fun i => c * u i) n m k = c * An S u n m k
  | 0 => by show (0 : El F) = c * 0; grind
  | n + 1 => by
    show An S (fun i => c * u i) n m k + (c * u n) * itS S n m k = c * (An S u n m k + u n * itS S n m k)
    rw [An_mulu c u m k n]; grind
theorem An_more {u : Nat → El F} {n : Nat} (z : ∀ i, n ≤ i → u i = 0) (m : K → El F) (k : K) : ∀ d : Nat, An S u (n + d) m k = An S u n m k
  | 0 => rfl
  | d + 1 => by
    show An S u (n + d) m k + u (n + d) * itS S (n + d) m k = An S u n m k
    rw [An_more z m k d, z (n + d) (by omega)]; grind
theorem An_upto {u : Nat → El F} {n N : Nat} (z : ∀ i, n ≤ i → u i = 0) (hN : n ≤ N) (m : K → El F) (k : K) : An S u N m k = An S u n m k := by
  have := An_more (S := S) z m k (N - n)
  rwa [show n + (N - n) = N by omega] at this
variable (hS : Stp S)
include hS
theorem itS_z : ∀ n : Nat, itS S n (fun _ => 0) = fun _ => (0 : El F)
  | 0 => rfl
  | n + 1 => by show S (itS S n _) = _; rw [itS_z n, hS.zero]
theorem itS_add (a b : K → El F) : ∀ n : Nat, itS S n (fun k => a k + b k) = fun k => itS S n a k + itS S n b k
  | 0 => rfl
  | n + 1 => by show S (itS S n _) = _; rw [itS_add a b n, hS.add]; rfl
theorem An_z (u : Nat → El F) (k : K) : ∀ n : Nat, An S u n (fun _ => 0) k = 0
  | 0 => rfl
  | n + 1 => by
    show An S u n (fun _ => 0) k + u n * itS S n (fun _ => 0) k = 0
    rw [An_z u k n, itS_z hS n]; grind
theorem An_addm (u : Nat → El F) (a b : K → El F) (k : K) : ∀ n : Nat, An S u n (fun k => a k + b k) k = An S u n a k + An S u n b k
  | 0 => by show (0 : El F) = 0 + 0; grind
  | n + 1 => by
    show An S u n (fun k => a k + b k) k + u n * itS S n (fun k => a k + b k) k = An S u n a k + u n * itS S n a k + (An S u n b k + u n * itS S n b k)
    rw [An_addm u a b k n, itS_add hS a b n]; grind
theorem S_An (u : Nat → El F) (m : K → El F) : ∀ n : Nat, S (An S u n m) = An S (fun i => El.fr (u i)) n (S m)
  | 0 => hS.zero
  | n + 1 => by
    show S (fun k => An S u n m k + u n * itS S n m k) = fun k => An S (fun i => El.fr (u i)) n (S m) k + El.fr (u n) * itS S n (S m) k
    rw [hS.add (An S u n m) (fun k => u n * itS S n m k), hS.mul (u n) (itS S n m), S_An u m n, itS_s]; rfl
end
/-- numbers moved on by one place, turned once -/
def shf (v : Nat → El F) : Nat → El F
  | 0 => 0
  | k + 1 => El.fr (v k)
theorem shf_stp : Stp (F := F) shf := by
  refine ⟨funext fun k => ?_, fun a b => funext fun k => ?_, fun c a => funext fun k => ?_⟩
  · cases k with
    | zero => rfl
    | succ k => exact fr_zero
  · cases k with
    | zero => show (0 : El F) = 0 + 0; grind
    | succ k => exact fr_add _ _
  · cases k with
    | zero => show (0 : El F) = El.fr c * 0; grind
    | succ k => exact fr_mul _ _
theorem itS_shf (v : Nat → El F) : ∀ (n k : Nat), itS shf n v k = if n ≤ k then El.frn (v (k - n)) n else 0
  | 0, k => by rw [if_pos (by omega)]; rfl
  | n + 1, k => by
    show shf (itS shf n v) k = _
    cases k with
    | zero => rw [if_neg (by omega)]; rfl
    | succ k =>
      show El.fr (itS shf n v k) = _
      rw [itS_shf v n k]
      by_cases hk : n ≤ k
      · rw [if_pos hk, if_pos (by omega), show k + 1 - (n + 1) = k - n by omega]; rfl
      · rw [if_neg hk, if_neg (by omega)]; exact fr_zero
theorem shf_z {v : Nat → El F} {M : Nat} (z : ∀ i, M ≤ i → v i = 0) : ∀ i, M + 1 ≤ i → shf v i = 0 := fun i hi => by
  cases i with
  | zero => omega
  | succ i => show El.fr (v i) = 0; rw [z i (by omega), fr_zero]
/-- the numbers of one with another one put in -/
abbrev Pn (u : Nat → El F) (n : Nat) (v : Nat → El F) : Nat → El F := An shf u n v
theorem Pn_z : ∀ (n : Nat) (u v : Nat → El F) (M : Nat), (∀ i, M ≤ i → v i = 0) → ∀ k, n + M ≤ k + 1 → Pn u n v k = 0
  | 0, _, _, _, _, _, _ => rfl
  | n + 1, u, v, M, z, k, hk => by
    show An shf u (n + 1) v k = 0
    rw [An_cons, z k (by omega), show An shf (fun i => u (i + 1)) n (shf v) k = 0 from Pn_z n _ _ (M + 1) (shf_z z) k (by omega)]
    grind
theorem Pn_top (u v : Nat → El F) (n M : Nat) (z : ∀ i, M + 1 ≤ i → v i = 0) : Pn u (n + 1) v (n + M) = u n * El.frn (v M) n := by
  show An shf u n v (n + M) + u n * itS shf n v (n + M) = _
  rw [show An shf u n v (n + M) = 0 from Pn_z n u v (M + 1) z (n + M) (by omega), itS_shf, if_pos (by omega), show n + M - n = M by omega]
  grind
/-- whatever is done behind: one of the other one, done, is the other one done and the one done to that -/
theorem An_assoc {K : Type} {S : (K → El F) → K → El F} (hS : Stp S) (m : K → El F) : ∀ (n : Nat) (u v : Nat → El F) (M N : Nat), (∀ i, M ≤ i → v i = 0) → n + M ≤ N → An S (Pn u n v) N m = An S u n (An S v M m)
  | 0, u, v, M, N, z, hN => by
    funext k
    show An S (fun _ => 0) N m k = 0
    exact An_upto (n := 0) (fun _ _ => rfl) (Nat.zero_le _) m k
  | n + 1, u, v, M, N, z, hN => by
    funext k
    have e1 : Pn u (n + 1) v = fun i => u 0 * v i + Pn (fun i => u (i + 1)) n (shf v) i := funext fun i => An_cons u v i n
    have ih := An_assoc hS m n (fun i => u (i + 1)) (shf v) (M + 1) N (shf_z z) (by omega)
    have e2 : An S (shf v) (M + 1) m = S (An S v M m) := by
      funext k
      rw [An_cons, S_An hS]
      show (0 : El F) * m k + An S (fun i => El.fr (v i)) M (S m) k = _
      grind
    rw [e1, An_addu, An_mulu, An_upto z (by omega), ih, e2, An_cons]
/-- worths -/
def Stp1 : (Unit → El F) → Unit → El F := fun g _ => El.fr (g ())
theorem stp1 : Stp (F := F) Stp1 := ⟨funext fun _ => fr_zero, fun _ _ => funext fun _ => fr_add _ _, fun _ _ => funext fun _ => fr_mul _ _⟩
def Wn (u : Nat → El F) (n : Nat) (x : El F) : El F := An Stp1 u n (fun _ => x) ()
theorem itS_1 (x : El F) : ∀ n : Nat, itS Stp1 n (fun _ => x) () = El.frn x n
  | 0 => rfl
  | n + 1 => by show El.fr (itS Stp1 n (fun _ => x) ()) = _; rw [itS_1 x n]; rfl
theorem Wn_s (u : Nat → El F) (n : Nat) (x : El F) : Wn u (n + 1) x = Wn u n x + u n * El.frn x n := by
  show An Stp1 u n (fun _ => x) () + u n * itS Stp1 n (fun _ => x) () = _
  rw [itS_1]; rfl
theorem Wn_put (u v : Nat → El F) {n M N : Nat} (z : ∀ i, M ≤ i → v i = 0) (hN : n + M ≤ N) (x : El F) : Wn (Pn u n v) N x = Wn u n (Wn v M x) := by
  unfold Wn
  rw [An_assoc stp1 _ n u v M N z hN]
theorem Wn_upto {u : Nat → El F} {n N : Nat} (z : ∀ i, n ≤ i → u i = 0) (hN : n ≤ N) (x : El F) : Wn u N x = Wn u n x := An_upto z hN _ _
theorem Wn_add (u : Nat → El F) (n : Nat) (x y : El F) : Wn u n (x + y) = Wn u n x + Wn u n y := An_addm stp1 u (fun _ => x) (fun _ => y) () n
theorem Wn_addu (u v : Nat → El F) (n : Nat) (x : El F) : Wn (fun i => u i + v i) n x = Wn u n x + Wn v n x := An_addu u v _ () n
theorem Wn_mulu (c : El F) (u : Nat → El F) (n : Nat) (x : El F) : Wn (fun i => c * u i) n x = c * Wn u n x := An_mulu c u _ () n

/-! ### lists -/
def nu (f : List (El F)) : List Int := f.map (·.1)
def co (f : List (El F)) : Nat → El F := fun k => f.getD k 0
def tab (n : Nat) (u : Nat → El F) : List (El F) := (List.range n).map u
theorem co_out (f : List (El F)) : ∀ i, f.length ≤ i → co f i = 0 := fun i hi => by
  show f.getD i 0 = 0
  rw [List.getD_eq_getElem?_getD, List.getElem?_eq_none hi]; rfl
theorem co_lt {f : List (El F)} {i : Nat} (hi : i < f.length) : co f i = f[i] := by
  show f.getD i 0 = _
  rw [List.getD_eq_getElem?_getD, List.getElem?_eq_getElem hi]; rfl
theorem tab_len (n : Nat) (u : Nat → El F) : (tab n u).length = n := by simp [tab]
theorem co_tab {n : Nat} {u : Nat → El F} (z : ∀ i, n ≤ i → u i = 0) : co (tab n u) = u := funext fun i => by
  by_cases hi : i < n
  · rw [co_lt (by rw [tab_len]; exact hi)]; simp [tab]
  · rw [co_out _ i (by rw [tab_len]; omega), z i (by omega)]
theorem co_nil : co ([] : List (El F)) = fun _ => 0 := funext fun _ => rfl
theorem co_0 (a : El F) (f : List (El F)) : co (a :: f) 0 = a := rfl
theorem co_s (a : El F) (f : List (El F)) (k : Nat) : co (a :: f) (k + 1) = co f k := rfl
/-- no 0 at the end -/
def Tol (f : List (El F)) : Prop := ∀ hn : f ≠ [], f.getLast hn ≠ 0
theorem tol_nil : Tol ([] : List (El F)) := fun hn => absurd rfl hn
theorem tol_last {f : List (El F)} (hf : Tol f) (n : Nat) (e : f.length = n + 1) : co f n ≠ 0 := by
  have hn : f ≠ [] := by intro z; rw [z] at e; cases e
  have := hf hn
  rw [List.getLast_eq_getElem] at this
  rw [co_lt (by omega)]
  simpa [e] using this
theorem tol_of {f : List (El F)} (hf : ∀ n, f.length = n + 1 → co f n ≠ 0) : Tol f := fun hn => by
  have hl : 0 < f.length := List.length_pos_iff.mpr hn
  have := hf (f.length - 1) (by omega)
  rw [co_lt (by omega)] at this
  rw [List.getLast_eq_getElem]
  exact this
theorem tol_ext {f g : List (El F)} (hf : Tol f) (hg : Tol g) (e : co f = co g) : f = g := by
  have key : ∀ {f g : List (El F)}, Tol g → co f = co g → g.length ≤ f.length := fun {f g} hg e => by
    by_cases hl : g.length ≤ f.length
    · exact hl
    · have h1 := tol_last hg (g.length - 1) (by omega)
      rw [← e, co_out f _ (by omega)] at h1
      exact absurd rfl h1
  have l1 := key hg e
  have l2 := key hf e.symm
  refine List.ext_getElem (by omega) fun i h1 h2 => ?_
  rw [← co_lt h1, ← co_lt h2, e]
def etrim : List (El F) → List (El F)
  | [] => []
  | a :: l => if etrim l = [] then (if a = 0 then [] else [a]) else a :: etrim l
theorem etrim_cons (a : El F) (l : List (El F)) : etrim (a :: l) = if etrim l = [] then (if a = 0 then [] else [a]) else a :: etrim l := rfl
theorem nu_nil {f : List (El F)} : nu f = [] ↔ f = [] := by simp [nu]
theorem nu_len (f : List (El F)) : (nu f).length = f.length := by simp [nu]
theorem trim_nu : ∀ f : List (El F), trim (nu f) = nu (etrim f)
  | [] => rfl
  | a :: f => by
    have ih := trim_nu f
    show trim (a.1 :: nu f) = _
    rw [trim_cons, etrim_cons, ih]
    by_cases e : etrim f = []
    · rw [e, if_pos (show nu ([] : List (El F)) = [] from rfl), if_pos rfl]
      by_cases z : a = 0
      · rw [if_pos (el_eq.mp z), if_pos z]; rfl
      · rw [if_neg (fun q => z (el_eq.mpr q)), if_neg z]; rfl
    · rw [if_neg (fun q => e (nu_nil.mp q)), if_neg e]; rfl
theorem co_etrim : ∀ f : List (El F), co (etrim f) = co f
  | [] => rfl
  | a :: f => by
    have ih := co_etrim f
    rw [etrim_cons]
    funext k
    by_cases e : etrim f = []
    · rw [if_pos e]
      rw [e] at ih
      by_cases z : a = 0
      · rw [if_pos z]
        cases k with
        | zero => rw [z]; rfl
        | succ k => show (0 : El F) = co f k; rw [← ih]; rfl
      · rw [if_neg z]
        cases k with
        | zero => rfl
        | succ k => show co [] k = co f k; rw [ih]
    · rw [if_neg e]
      cases k with
      | zero => rfl
      | succ k => show co (etrim f) k = co f k; rw [ih]
theorem tol_etrim : ∀ f : List (El F), Tol (etrim f)
  | [] => tol_nil
  | a :: f => by
    have ih := tol_etrim f
    rw [etrim_cons]
    split
    · split
      · exact tol_nil
      · rename_i z; exact fun _ => z
    · rename_i e
      intro hn
      rw [List.getLast_cons e]
      exact ih e
theorem etrim_len : ∀ f : List (El F), (etrim f).length ≤ f.length
  | [] => Nat.le_refl _
  | a :: f => by
    have ih := etrim_len f
    rw [etrim_cons]
    split
    · split
      · simp
      · simp
    · simp only [List.length_cons]; omega
theorem etrim_of {f : List (El F)} (hf : Tol f) : etrim f = f := tol_ext (tol_etrim f) hf (co_etrim f)
theorem etrim_ext {f g : List (El F)} (e : co f = co g) : etrim f = etrim g := tol_ext (tol_etrim f) (tol_etrim g) (by rw [co_etrim, co_etrim, e])

/-! ### turn sums as lists -/
def tsum (f g : List (El F)) : List (El F) := etrim (tab (max f.length g.length) fun k => co f k + co g k)
def tsub (f g : List (El F)) : List (El F) := etrim (tab (max f.length g.length) fun k => co f k - co g k)
def tscl (c : El F) (f : List (El F)) : List (El F) := etrim (f.map (c * ·))
def tput (f g : List (El F)) : List (El F) := etrim (tab (f.length + g.length - 1) (Pn (co f) f.length (co g)))
def twor (f : List (El F)) (x : El F) : El F := Wn (co f) f.length x
theorem co_tsum (f g : List (El F)) : co (tsum f g) = fun k => co f k + co g k := by
  unfold tsum
  rw [co_etrim, co_tab fun i hi => ?_]
  show co f i + co g i = 0
  rw [co_out f i (by omega), co_out g i (by omega)]; grind
theorem co_tsub (f g : List (El F)) : co (tsub f g) = fun k => co f k - co g k := by
  unfold tsub
  rw [co_etrim, co_tab fun i hi => ?_]
  show co f i - co g i = 0
  rw [co_out f i (by omega), co_out g i (by omega)]; grind
theorem co_map (φ : El F → El F) (h0 : φ 0 = 0) : ∀ f : List (El F), co (f.map φ) = fun k => φ (co f k)
  | [] => funext fun k => h0.symm
  | a :: f => funext fun k => by
    cases k with
    | zero => rfl
    | succ k => show co (f.map φ) k = φ (co f k); rw [co_map φ h0 f]
theorem co_tscl (c : El F) (f : List (El F)) : co (tscl c f) = fun k => c * co f k := by
  unfold tscl
  rw [co_etrim, co_map _ (by grind)]
theorem co_tput (f g : List (El F)) : co (tput f g) = Pn (co f) f.length (co g) := by
  unfold tput
  rw [co_etrim, co_tab fun i hi => ?_]
  by_cases hn : f.length = 0
  · rw [hn]; rfl
  · exact Pn_z f.length _ _ g.length (co_out g) i (by omega)
theorem tol_tsum (f g : List (El F)) : Tol (tsum f g) := tol_etrim _
theorem tol_tsub (f g : List (El F)) : Tol (tsub f g) := tol_etrim _
theorem tol_tscl (c : El F) (f : List (El F)) : Tol (tscl c f) := tol_etrim _
theorem tol_tput (f g : List (El F)) : Tol (tput f g) := tol_etrim _
theorem tsum_len (f g : List (El F)) : (tsum f g).length ≤ max f.length g.length := by have := etrim_len (tab (max f.length g.length) fun k => co f k + co g k); rw [tab_len] at this; exact this
theorem tsub_len (f g : List (El F)) : (tsub f g).length ≤ max f.length g.length := by have := etrim_len (tab (max f.length g.length) fun k => co f k - co g k); rw [tab_len] at this; exact this
theorem tput_len (f g : List (El F)) : (tput f g).length ≤ f.length + g.length - 1 := by have := etrim_len (tab (f.length + g.length - 1) (Pn (co f) f.length (co g))); rw [tab_len] at this; exact this
theorem tscl_len (c : El F) (f : List (El F)) : (tscl c f).length ≤ f.length := by have := etrim_len (f.map (c * ·)); rw [List.length_map] at this; exact this
/-- by the numbers alone -/
theorem Pn_co {f f' : List (El F)} (e : co f = co f') (v : Nat → El F) : Pn (co f) f.length v = Pn (co f') f'.length v := by
  have key : ∀ {f f' : List (El F)}, co f = co f' → f.length ≤ f'.length → Pn (co f) f.length v = Pn (co f') f'.length v := fun {f f'} e hl => by
    funext k
    rw [← e]
    exact (An_upto (co_out f) hl v k).symm
  rcases Nat.le_total f.length f'.length with hl | hl
  · exact key e hl
  · exact (key e.symm hl).symm
theorem tput_co {f f' g g' : List (El F)} (e : co f = co f') (e2 : co g = co g') : tput f g = tput f' g' := tol_ext (tol_tput _ _) (tol_tput _ _) (by rw [co_tput, co_tput, e2, Pn_co e])
theorem twor_co {f f' : List (El F)} (e : co f = co f') (x : El F) : twor f x = twor f' x := by
  have key : ∀ {f f' : List (El F)}, co f = co f' → f.length ≤ f'.length → twor f x = twor f' x := fun {f f'} e hl => by
    unfold twor
    rw [← e]
    exact (Wn_upto (co_out f) hl x).symm
  rcases Nat.le_total f.length f'.length with hl | hl
  · exact key e hl
  · exact (key e.symm hl).symm
theorem tput_assoc (f g k : List (El F)) : tput (tput f g) k = tput f (tput g k) := by
  refine tol_ext (tol_tput _ _) (tol_tput _ _) ?_
  rw [co_tput, co_tput, co_tput, co_tput g k]
  have e : Pn (Pn (co f) f.length (co g)) (tput f g).length (co k) = Pn (Pn (co f) f.length (co g)) (f.length + g.length) (co k) := by
    funext j
    refine (An_upto (n := (tput f g).length) (fun i hi => ?_) ?_ (co k) j).symm
    · rw [← co_tput]; exact co_out _ i hi
    · have := tput_len f g; omega
  rw [e]
  exact An_assoc shf_stp (co k) f.length (co f) (co g) g.length _ (co_out g) (Nat.le_refl _)
theorem twor_put (f g : List (El F)) (x : El F) : twor (tput f g) x = twor f (twor g x) := by
  have e : twor (tput f g) x = Wn (Pn (co f) f.length (co g)) (f.length + g.length) x := by
    unfold twor
    rw [co_tput]
    refine (Wn_upto (n := (tput f g).length) (fun i hi => ?_) ?_ x).symm
    · rw [← co_tput]; exact co_out _ i hi
    · have := tput_len f g; omega
  rw [e]
  exact Wn_put _ _ (co_out g) (Nat.le_refl _) x
theorem tput_addl (f g k : List (El F)) : tput (tsum f g) k = tsum (tput f k) (tput g k) := by
  refine tol_ext (tol_tput _ _) (tol_tsum _ _) ?_
  rw [co_tput, co_tsum, co_tsum, co_tput, co_tput]
  have hl := tsum_len f g
  have z : ∀ i, (tsum f g).length ≤ i → co f i + co g i = 0 := fun i hi => by
    have := co_out (tsum f g) i hi
    rw [co_tsum] at this
    exact this
  funext j
  show An shf (fun k => co f k + co g k) (tsum f g).length (co k) j = An shf (co f) f.length (co k) j + An shf (co g) g.length (co k) j
  rw [← An_upto (u := fun k => co f k + co g k) (N := max f.length g.length) z hl (co k) j, An_addu]
  rw [An_upto (co_out f) (by omega), An_upto (co_out g) (by omega)]
theorem tput_addr (f g k : List (El F)) : tput f (tsum g k) = tsum (tput f g) (tput f k) := by
  refine tol_ext (tol_tput _ _) (tol_tsum _ _) ?_
  rw [co_tput, co_tsum, co_tsum, co_tput, co_tput]
  funext j
  exact An_addm shf_stp (co f) (co g) (co k) j f.length
theorem twor_sum (f g : List (El F)) (x : El F) : twor (tsum f g) x = twor f x + twor g x := by
  have hl := tsum_len f g
  have z : ∀ i, (tsum f g).length ≤ i → co f i + co g i = 0 := fun i hi => by
    have := co_out (tsum f g) i hi
    rw [co_tsum] at this
    exact this
  unfold twor
  rw [co_tsum, ← Wn_upto (u := fun k => co f k + co g k) (N := max f.length g.length) z hl x, Wn_addu]
  rw [Wn_upto (co_out f) (by omega), Wn_upto (co_out g) (by omega)]
theorem twor_scl (c : El F) (f : List (El F)) (x : El F) : twor (tscl c f) x = c * twor f x := by
  have hl := tscl_len c f
  have z : ∀ i, (tscl c f).length ≤ i → c * co f i = 0 := fun i hi => by
    have := co_out (tscl c f) i hi
    rw [co_tscl] at this
    exact this
  unfold twor
  rw [co_tscl, ← Wn_upto (u := fun k => c * co f k) (N := f.length) z hl x, Wn_mulu]
theorem twor_add (f : List (El F)) (x y : El F) : twor f (x + y) = twor f x + twor f y := Wn_add _ _ x y
/-- of two that are not nought -/
theorem frn_ne {a : El F} (ha : a ≠ 0) : ∀ n : Nat, El.frn a n ≠ 0
  | 0 => ha
  | n + 1 => fun e => by
    have e : El.fr (El.frn a n) = 0 := e
    have hp : ∀ (b : El F) (hb : b ≠ 0) (m : Nat), b ^ m ≠ 0 := fun b hb m => by
      induction m with
      | zero => rw [Lean.Grind.Semiring.pow_zero]; exact one_ne
      | succ m ih => rw [Lean.Grind.Semiring.pow_succ]; exact mul_ne ih hb
    exact hp _ (frn_ne ha n) F.p e
theorem tput_tab {f g : List (El F)} (hf : Tol f) (hg : Tol g) (nf : f ≠ []) (ng : g ≠ []) : tput f g = tab (f.length + g.length - 1) (Pn (co f) f.length (co g)) := by
  have l1 : 0 < f.length := List.length_pos_iff.mpr nf
  have l2 : 0 < g.length := List.length_pos_iff.mpr ng
  refine etrim_of (tol_of fun n hn => ?_)
  rw [tab_len] at hn
  rw [co_tab fun i hi => Pn_z f.length _ _ g.length (co_out g) i (by omega)]
  have := Pn_top (co f) (co g) (f.length - 1) (g.length - 1) (fun i hi => co_out g i (by omega))
  rw [show f.length - 1 + 1 = f.length by omega, show f.length - 1 + (g.length - 1) = n by omega] at this
  show Pn (co f) f.length (co g) n ≠ 0
  rw [this]
  exact mul_ne (tol_last hf _ (by omega)) (frn_ne (tol_last hg _ (by omega)) _)
theorem tput_len' {f g : List (El F)} (hf : Tol f) (hg : Tol g) (nf : f ≠ []) (ng : g ≠ []) : (tput f g).length = f.length + g.length - 1 := by
  rw [tput_tab hf hg nf ng, tab_len]
end
end Fq
end
section
set_option Elab.async false
set_option linter.all false
set_option maxRecDepth 100000
set_option maxHeartbeats 2000000
/-! FqU: turn sums: 1, an element, x turned, nought put in. -/
namespace Fq
section
variable {F : Fld} [h : FOk2 F]
theorem An_one (u : Nat → El F) (k : Nat) : ∀ n : Nat, An shf u n (co [1]) k = if k < n then u k else 0
  | 0 => by rw [if_neg (by omega)]; rfl
  | n + 1 => by
    show An shf u n (co [1]) k + u n * itS shf n (co [1]) k = _
    rw [An_one u k n, itS_shf]
    by_cases h1 : k < n
    · rw [if_pos h1, if_neg (by omega), if_pos (by omega)]; grind
    · rw [if_neg h1]
      by_cases h2 : k = n
      · rw [if_pos (by omega), if_pos (by omega), h2, Nat.sub_self, co_0, frn_one]; grind
      · have e : co [(1 : El F)] (k - n) = 0 := co_out _ _ (by simp only [List.length_singleton]; omega)
        rw [if_pos (by omega), if_neg (by omega), e, frn_zero]; grind
theorem An_x (u : Nat → El F) (k : Nat) : ∀ n : Nat, An shf u n (co [0, 1]) k = if 1 ≤ k ∧ k < n + 1 then u (k - 1) else 0
  | 0 => by rw [if_neg (by omega)]; rfl
  | n + 1 => by
    show An shf u n (co [0, 1]) k + u n * itS shf n (co [0, 1]) k = _
    rw [An_x u k n, itS_shf]
    by_cases h1 : k < n + 1
    · by_cases h0 : 1 ≤ k
      · rw [if_pos ⟨h0, h1⟩, if_pos (show 1 ≤ k ∧ k < n + 1 + 1 by omega)]
        by_cases h3 : n ≤ k
        · rw [if_pos h3, show k - n = 0 by omega, co_0, frn_zero]; grind
        · rw [if_neg h3]; grind
      · rw [if_neg (by omega), if_neg (show ¬ (1 ≤ k ∧ k < n + 1 + 1) by omega)]
        by_cases h3 : n ≤ k
        · rw [if_pos h3, show k - n = 0 by omega, co_0, frn_zero]; grind
        · rw [if_neg h3]; grind
    · rw [if_neg (by omega)]
      by_cases h2 : k = n + 1
      · rw [if_pos (by omega), if_pos (show 1 ≤ k ∧ k < n + 1 + 1 by omega), show k - n = 0 + 1 by omega, co_s, co_0, frn_one, show k - 1 = n by omega]; grind
      · have e : co [(0 : El F), 1] (k - n) = 0 := co_out _ _ (by simp only [List.length_cons, List.length_nil]; omega)
        rw [if_pos (by omega), if_neg (show ¬ (1 ≤ k ∧ k < n + 1 + 1) by omega), e, frn_zero]; grind
theorem tput_one {f : List (El F)} (tf : Tol f) : tput f [1] = f := tol_ext (tol_tput _ _) tf (by
  rw [co_tput]
  funext k
  rw [show Pn (co f) f.length (co [1]) k = An shf (co f) f.length (co [1]) k from rfl, An_one]
  split
  · rfl
  · rw [co_out f k (by omega)])
theorem one_tput {f : List (El F)} (tf : Tol f) : tput [1] f = f := tol_ext (tol_tput _ _) tf (by
  rw [co_tput]
  funext k
  show (0 : El F) + 1 * co f k = _
  grind)
theorem nil_tput (f : List (El F)) : tput [] f = [] := tol_ext (tol_tput _ _) tol_nil (by
  rw [co_tput]; rfl)
theorem tput_nil (f : List (El F)) : tput f [] = [] := tol_ext (tol_tput _ _) tol_nil (by
  rw [co_tput]
  funext k
  exact An_z shf_stp (co f) k f.length)
theorem c_tput (c : El F) (f : List (El F)) : tput [c] f = tscl c f := tol_ext (tol_tput _ _) (tol_tscl _ _) (by
  rw [co_tput, co_tscl]
  funext k
  show (0 : El F) + c * co f k = _
  grind)
theorem fr_ne {a : El F} (ha : a ≠ 0) : El.fr a ≠ 0 := frn_ne ha 1
theorem tol_cons {f : List (El F)} (tf : Tol f) (nf : f ≠ []) (a : El F) : Tol (a :: f) := fun hn => by
  rw [List.getLast_cons nf]
  exact tf nf
theorem tol_map {f : List (El F)} (tf : Tol f) (φ : El F → El F) (hφ : ∀ a, a ≠ 0 → φ a ≠ 0) : Tol (f.map φ) := fun hn => by
  rw [List.getLast_map]
  exact hφ _ (tf (by intro z; rw [z] at hn; exact hn rfl))
theorem x_tput {f : List (El F)} (tf : Tol f) (nf : f ≠ []) : tput [0, 1] f = 0 :: f.map El.fr := tol_ext (tol_tput _ _) (tol_cons (tol_map tf El.fr fun a => fr_ne) (by simp [nf]) 0) (by
  rw [co_tput]
  funext k
  show ((0 : El F) + 0 * co f k) + 1 * shf (co f) k = _
  cases k with
  | zero => show ((0 : El F) + 0 * co f 0) + 1 * 0 = 0; grind
  | succ k => rw [co_s, co_map El.fr fr_zero]; show ((0 : El F) + 0 * co f (k + 1)) + 1 * El.fr (co f k) = El.fr (co f k); grind)
theorem tput_x {f : List (El F)} (tf : Tol f) (nf : f ≠ []) : tput f [0, 1] = 0 :: f := tol_ext (tol_tput _ _) (tol_cons tf nf 0) (by
  rw [co_tput]
  funext k
  rw [show Pn (co f) f.length (co [0, 1]) k = An shf (co f) f.length (co [0, 1]) k from rfl, An_x]
  cases k with
  | zero => rw [if_neg (by omega), co_0]
  | succ k =>
    rw [co_s]
    by_cases hk : k < f.length
    · rw [if_pos (by omega)]; rfl
    · rw [if_neg (by omega), co_out f k (by omega)])
theorem tol_one (x : El F) (hx : x ≠ 0) : Tol [x] := fun _ => hx
theorem tol_two (y x : El F) (hx : x ≠ 0) : Tol [y, x] := fun _ => hx
theorem nu_getD (f : List (El F)) (i : Nat) : (nu f).getD i 0 = (co f i).1 := by
  unfold nu co
  rw [List.getD_eq_getElem?_getD, List.getD_eq_getElem?_getD, List.getElem?_map]
  cases f[i]? with
  | none => exact zero_1.symm
  | some a => rfl
theorem nu_set (f : List (El F)) (i : Nat) (v : El F) : (nu f).set i v.1 = nu (f.set i v) := by unfold nu; rw [List.map_set]
theorem nu_rep (n : Nat) : List.replicate n (0 : Int) = nu (List.replicate n (0 : El F)) := by unfold nu; rw [List.map_replicate, zero_1]
theorem nu_app (f g : List (El F)) : nu (f ++ g) = nu f ++ nu g := by unfold nu; rw [List.map_append]
theorem nu_cons (a : El F) (f : List (El F)) : nu (a :: f) = a.1 :: nu f := rfl
theorem nu_inj {f g : List (El F)} (e : nu f = nu g) : f = g := by
  induction f generalizing g with
  | nil => cases g with
    | nil => rfl
    | cons b g => cases e
  | cons a f ih => cases g with
    | nil => cases e
    | cons b g =>
      rw [nu_cons, nu_cons] at e
      injection e with e1 e2
      rw [El.ext e1, ih e2]
theorem co_set {f : List (El F)} {i : Nat} (v : El F) (hi : i < f.length) : co (f.set i v) = fun k => if k = i then v else co f k := funext fun k => by
  unfold co
  rw [List.getD_eq_getElem?_getD]
  by_cases e : k = i
  · rw [if_pos e, e, List.getElem?_set_self hi]; rfl
  · rw [if_neg e, List.getElem?_set_ne (fun q => e q.symm), List.getD_eq_getElem?_getD]
theorem co_rep (n : Nat) : co (List.replicate n (0 : El F)) = fun _ => 0 := funext fun k => by
  unfold co
  rw [List.getD_eq_getElem?_getD, List.getElem?_replicate]
  split <;> rfl
theorem co_app (f g : List (El F)) : co (f ++ g) = fun k => if k < f.length then co f k else co g (k - f.length) := funext fun k => by
  unfold co
  rw [List.getD_eq_getElem?_getD, List.getElem?_append]
  split <;> rw [List.getD_eq_getElem?_getD]
theorem co_drop (f : List (El F)) (n : Nat) : co (f.drop n) = fun k => co f (n + k) := funext fun k => by
  unfold co
  rw [List.getD_eq_getElem?_getD, List.getElem?_drop, List.getD_eq_getElem?_getD]
/-- the longer one's tail behind the sums -/
theorem sum_code {f g : List (El F)} (hl : g.length ≤ f.length) : etrim (tab g.length (fun k => co f k + co g k) ++ f.drop g.length) = tsum f g := by
  refine etrim_ext ?_
  rw [co_app, co_tab (n := max f.length g.length) fun i hi => by rw [co_out f i (by omega), co_out g i (by omega)]; grind]
  funext k
  rw [tab_len, co_drop]
  by_cases hk : k < g.length
  · rw [if_pos hk, co_lt (by rw [tab_len]; exact hk)]; simp [tab]
  · rw [if_neg hk]
    show co f (g.length + (k - g.length)) = co f k + co g k
    rw [show g.length + (k - g.length) = k by omega, co_out g k (by omega)]; grind
theorem tsum_comm (f g : List (El F)) : tsum f g = tsum g f := tol_ext (tol_tsum _ _) (tol_tsum _ _) (by rw [co_tsum, co_tsum]; funext k; grind)
end
end Fq
end
section
set_option Elab.async false
set_option linter.all false
set_option maxRecDepth 100000
/-! EvR: repr of lists of ints. -/
namespace Tp
open PySem
theorem strOk_of (s : String) : PyData.strOk (Str.ofString s) = true := by
  unfold PyData.strOk
  rw [Str.ofString_eq_toList]
  simp only [List.all_toArray, List.all_map]
  rw [List.all_eq_true]
  intro c _
  have := c.valid
  have h2 : c.toNat < 0x110000 := by
    rcases this with h | ⟨_, h⟩
    · exact Nat.lt_trans h (by decide)
    · exact h
  exact decide_eq_true h2
theorem strOk_app {a b : Str} (h1 : PyData.strOk a = true) (h2 : PyData.strOk b = true) : PyData.strOk (a ++ b) = true := by
  unfold PyData.strOk at *
  rw [Str.cps_append, Array.all_append, h1, h2]; rfl
theorem strOk_from : ∀ (ts : List Str) (k : Nat) (acc : Str), PyData.strOk acc = true → (∀ t, t ∈ ts → PyData.strOk t = true) → PyData.strOk (textFrom k acc ts) = true
  | [], _, _, h, _ => h
  | t :: ts, k, acc, h, hs => strOk_from ts (k + 1) _ (strOk_app (strOk_app h (strOk_of _)) (hs t List.mem_cons_self)) fun t ht => hs t (List.mem_cons_of_mem _ ht)
/-- the text of a list of ints -/
def rs (l : List Int) : Str := (PyData.list (l.map .int)).shown
theorem shownAll_mem : ∀ (l : List Int) (t : Str), t ∈ PyData.shownAll (l.map .int) → PyData.strOk t = true
  | [], t, h => by simp only [List.map_nil, PyData.shownAll] at h; cases h
  | a :: l, t, h => by
    simp only [List.map_cons, PyData.shownAll, List.mem_cons] at h
    rcases h with rfl | h
    · simp only [PyData.shown]; exact strOk_of _
    · exact shownAll_mem l t h
theorem rs_ok (l : List Int) : PyData.strOk (rs l) = true := by
  unfold rs
  simp only [PyData.shown]
  exact strOk_app (strOk_from _ _ _ (strOk_of _) (shownAll_mem l)) (strOk_of _)
theorem shBs_int : ∀ (l : List Int), (∀ x, x ∈ l → -1000000000000000000 < x ∧ x < 1000000000000000000) → shBs (l.map .int) = some (21 * l.length)
  | [], _ => by simp only [List.map_nil, shBs, List.length_nil, Nat.mul_zero]
  | a :: l, h => by
    simp only [List.map_cons, shBs, shB]
    rw [if_pos (h a List.mem_cons_self), shBs_int l fun x hx => h x (List.mem_cons_of_mem _ hx)]
    show some (19 + 2 + 21 * l.length) = some (21 * (l.length + 1))
    congr 1; omega
theorem depth_int : ∀ (l : List Int), PyData.depthAll (l.map .int) = 0
  | [] => by simp only [List.map_nil, PyData.depthAll]
  | a :: l => by simp only [List.map_cons, PyData.depthAll, PyData.depth, depth_int l]; rfl
theorem toPys_int : ∀ (l : List Int), toPys (lI l) = some (l.map .int)
  | [] => by simp only [lI, List.map_nil, toPys]
  | a :: l => by
    have ih := toPys_int l
    unfold lI at ih ⊢
    simp only [List.map_cons, toPys, toPy, ih]
theorem okShow_int {l : List Int} (h : ∀ x, x ∈ l → -1000000000000000000 < x ∧ x < 1000000000000000000) (hl : l.length ≤ 1000) : okShow (.list (l.map .int)) = true := by
  have e : shB (.list (l.map .int)) = some (21 * l.length + 2) := by simp only [shB, shBs_int l h]; rfl
  unfold okShow
  rw [e]
  show (decide (21 * l.length + 2 ≤ 1000000) && decide (PyData.depth (.list (l.map .int)) ≤ 60)) = true
  simp only [PyData.depth, depth_int]
  rw [decide_eq_true (by omega : 21 * l.length + 2 ≤ 1000000)]; rfl
theorem repr_o {l : List Int} (h : ∀ x, x ∈ l → -1000000000000000000 < x ∧ x < 1000000000000000000) (hl : l.length ≤ 1000) : bRepr.f [.v (.ow (lI l))] = some (.v (.sh (.str (rs l)))) := by
  show (rPy (.v (.ow (lI l)))).bind _ = _
  have e : rPy (.v (.ow (lI l))) = some (.list (l.map .int)) := by show (toPys (lI l)).map _ = _; rw [toPys_int]; rfl
  rw [e]
  show (if okShow (.list (l.map .int)) = true then _ else none) = _
  rw [if_pos (okShow_int h hl)]; rfl
theorem repr_b {l : List Int} (h : ∀ x, x ∈ l → -1000000000000000000 < x ∧ x < 1000000000000000000) (hl : l.length ≤ 1000) : bRepr.f [.bw (lI l)] = some (.v (.sh (.str (rs l)))) := by
  show (rPy (.bw (lI l))).bind _ = _
  have e : rPy (.bw (lI l)) = some (.list (l.map .int)) := by show (toPys (lI l)).map _ = _; rw [toPys_int]; rfl
  rw [e]
  show (if okShow (.list (l.map .int)) = true then _ else none) = _
  rw [if_pos (okShow_int h hl)]; rfl
theorem repr_l {l : List Int} (h : ∀ x, x ∈ l → -1000000000000000000 < x ∧ x < 1000000000000000000) (hl : l.length ≤ 1000) : bRepr.f [.v (.sh (.lst (lI l)))] = some (.v (.sh (.str (rs l)))) := by
  show (rPy (.v (.sh (.lst (lI l))))).bind _ = _
  have e : rPy (.v (.sh (.lst (lI l)))) = some (.list (l.map .int)) := by show toPy (.lst (lI l)) = _; simp only [toPy, toPys_int]; rfl
  rw [e]
  show (if okShow (.list (l.map .int)) = true then _ else none) = _
  rw [if_pos (okShow_int h hl)]; rfl
theorem eqR_str {s : Str} (h : PyData.strOk s = true) : eqR (.v (.sh (.str s))) (.v (.sh (.str s))) = some true := by
  show (match rPy (.v (.sh (.str s))), rPy (.v (.sh (.str s))) with
    | some p, some q => if SeqAt.shaped p && SeqAt.shaped q then some (PyData.eqv p q) else none
    | _, _ => none) = _
  have e : rPy (.v (.sh (.str s))) = some (.str s) := by show toPy (.str s) = _; simp only [toPy]
  have e2 : SeqAt.shaped (.str s) = true := by
    unfold SeqAt.shaped
    simp only [PyData.canLay0, h, PyData.depth]; rfl
  rw [e]
  show (if (SeqAt.shaped (.str s) && SeqAt.shaped (.str s)) = true then some (PyData.eqv (.str s) (.str s)) else none) = _
  rw [e2]
  show some (PyData.eqv (.str s) (.str s)) = _
  simp only [PyData.eqv, beq_self_eq_true]
theorem ne_rs (l : List Int) : fNe [.v (.sh (.str (rs l))), .v (.sh (.str (rs l)))] = some (.v (.sh (.bl false))) := by
  show (eqR _ _).map _ = _
  rw [eqR_str (rs_ok l)]; rfl
theorem eq_rs (l : List Int) : fEq [.v (.sh (.str (rs l))), .v (.sh (.str (rs l)))] = some (.v (.sh (.bl true))) := by
  show (eqR _ _).map _ = _
  rw [eqR_str (rs_ok l)]; rfl
/-! ### == of lists of ints -/
theorem canLay_int : ∀ (l : List Int), PyData.canLayAll0 (l.map .int) = true
  | [] => by simp only [List.map_nil, PyData.canLayAll0]
  | a :: l => by simp only [List.map_cons, PyData.canLayAll0, PyData.canLay0, canLay_int l]; rfl
theorem shaped_int (l : List Int) : SeqAt.shaped (.list (l.map .int)) = true := by
  unfold SeqAt.shaped
  simp only [PyData.canLay0, canLay_int, PyData.depth, depth_int]; rfl
theorem eqv_int : ∀ (a b : List Int), PyData.eqvAll (a.map .int) (b.map .int) = decide (a = b)
  | [], [] => by simp only [List.map_nil, PyData.eqvAll, decide_true]
  | [], _ :: _ => by simp only [List.map_nil, List.map_cons, PyData.eqvAll]; rfl
  | _ :: _, [] => by simp only [List.map_nil, List.map_cons, PyData.eqvAll]; rfl
  | x :: a, y :: b => by
    simp only [List.map_cons, PyData.eqvAll, PyData.eqv, eqv_int a b]
    by_cases h1 : x = y
    · by_cases h2 : a = b
      · simp [h1, h2]
      · simp [h1, h2]
    · simp [h1]
/-- answers that are lists of ints -/
inductive IsL : R → List Int → Prop where
  | b (l : List Int) : IsL (.bw (lI l)) l
  | o (l : List Int) : IsL (.v (.ow (lI l))) l
  | l (l : List Int) : IsL (.v (.sh (.lst (lI l)))) l
  | f (l : List Int) : IsL (.v (.sh (.fz (lI l)))) l
theorem isL_py {r : R} {l : List Int} (h : IsL r l) : rPy r = some (.list (l.map .int)) := by
  cases h
  · show (toPys (lI l)).map _ = _; rw [toPys_int]; rfl
  · show (toPys (lI l)).map _ = _; rw [toPys_int]; rfl
  · show toPy (.lst (lI l)) = _; simp only [toPy, toPys_int]; rfl
  · show toPy (.fz (lI l)) = _; simp only [toPy, toPys_int]; rfl
theorem eqR_ints {r s : R} {a b : List Int} (h : IsL r a) (k : IsL s b) : eqR r s = some (decide (a = b)) := by
  have e : eqR r s = (match rPy r, rPy s with
    | some p, some q => if SeqAt.shaped p && SeqAt.shaped q then some (PyData.eqv p q) else none
    | _, _ => none) := by cases h <;> cases k <;> rfl
  rw [e, isL_py h, isL_py k]
  show (if (SeqAt.shaped (.list (a.map .int)) && SeqAt.shaped (.list (b.map .int))) = true then some (PyData.eqv (.list (a.map .int)) (.list (b.map .int))) else none) = _
  rw [shaped_int, shaped_int]
  show some (PyData.eqv (.list (a.map .int)) (.list (b.map .int))) = _
  simp only [PyData.eqv, eqv_int]
theorem fNe_ob (a b : List Int) : fNe [.v (.ow (lI a)), .bw (lI b)] = some (.v (.sh (.bl (!decide (a = b))))) := by
  show (eqR _ _).map _ = _
  rw [eqR_ints (.o a) (.b b)]; rfl
theorem fNe_bo (a b : List Int) : fNe [.bw (lI a), .v (.ow (lI b))] = some (.v (.sh (.bl (!decide (a = b))))) := by
  show (eqR _ _).map _ = _
  rw [eqR_ints (.b a) (.o b)]; rfl
theorem fNe_oo (a b : List Int) : fNe [.v (.ow (lI a)), .v (.ow (lI b))] = some (.v (.sh (.bl (!decide (a = b))))) := by
  show (eqR _ _).map _ = _
  rw [eqR_ints (.o a) (.o b)]; rfl
theorem fNe_ll (a b : List Int) : fNe [.v (.sh (.lst (lI a))), .v (.sh (.lst (lI b)))] = some (.v (.sh (.bl (!decide (a = b))))) := by
  show (eqR _ _).map _ = _
  rw [eqR_ints (.l a) (.l b)]; rfl
theorem fNe_ol (a b : List Int) : fNe [.v (.ow (lI a)), .v (.sh (.lst (lI b)))] = some (.v (.sh (.bl (!decide (a = b))))) := by
  show (eqR _ _).map _ = _
  rw [eqR_ints (.o a) (.l b)]; rfl
theorem fNe_lo (a b : List Int) : fNe [.v (.sh (.lst (lI a))), .v (.ow (lI b))] = some (.v (.sh (.bl (!decide (a = b))))) := by
  show (eqR _ _).map _ = _
  rw [eqR_ints (.l a) (.o b)]; rfl
/-! ### sums of lists -/
theorem add_lo (a b : List D) (h : a.length + b.length ≤ 1000000) : fAdd [.v (.sh (.lst a)), .v (.ow b)] = some (.v (.ow (a ++ b))) := by
  show (if a.length + b.length ≤ lim then _ else none) = _
  rw [if_pos h]
theorem add_ll (a b : List D) (h : a.length + b.length ≤ 1000000) : fAdd [.v (.sh (.lst a)), .v (.sh (.lst b))] = some (.v (.ow (a ++ b))) := by
  show (if a.length + b.length ≤ lim then _ else none) = _
  rw [if_pos h]
theorem add_oo (a b : List D) (h : a.length + b.length ≤ 1000000) : fAdd [.v (.ow a), .v (.ow b)] = some (.v (.ow (a ++ b))) := by
  show (if a.length + b.length ≤ lim then _ else none) = _
  rw [if_pos h]
theorem add_ol (a b : List D) (h : a.length + b.length ≤ 1000000) : fAdd [.v (.ow a), .v (.sh (.lst b))] = some (.v (.ow (a ++ b))) := by
  show (if a.length + b.length ≤ lim then _ else none) = _
  rw [if_pos h]
end Tp
end
section
set_option Elab.async false
set_option linter.all false
set_option maxRecDepth 100000
set_option maxHeartbeats 1000000
/-! EvU: more lists of ints: ranges, filters, in. -/
namespace Tp
open PySem
section
variable {ρ : Env} {T : Cs}
def rgI (n : Nat) : List Int := (List.range n).map fun (i : Nat) => (i : Int)
theorem rgI_len (n : Nat) : (rgI n).length = n := by simp [rgI]
theorem rgI_mem {n : Nat} {x : Int} : x ∈ rgI n ↔ 0 ≤ x ∧ x < n := by
  unfold rgI
  rw [List.mem_map]
  constructor
  · rintro ⟨i, hi, rfl⟩
    have := List.mem_range.mp hi
    omega
  · intro h
    exact ⟨x.toNat, List.mem_range.mpr (by omega), by omega⟩
theorem rangeD_off : ∀ (n : Nat) (a : Int), rangeD a 1 n = lI ((List.range n).map fun (i : Nat) => a + (i : Int))
  | 0, a => rfl
  | n + 1, a => by
    rw [List.range_succ_eq_map, List.map_cons, List.map_map]
    show D.int a :: rangeD (a + 1) 1 n = _
    rw [rangeD_off n (a + 1)]
    have e : ((List.range n).map fun (i : Nat) => a + 1 + (i : Int)) = (List.range n).map ((fun (i : Nat) => a + (i : Int)) ∘ Nat.succ) := by
      apply List.map_congr_left
      intro i _
      show a + 1 + (i : Int) = a + ((i + 1 : Nat) : Int)
      omega
    rw [e]
    show _ = D.int (a + ((0 : Nat) : Int)) :: _
    rw [show a + ((0 : Nat) : Int) = a by omega]; rfl
theorem rangeD_0 (n : Nat) : rangeD 0 1 n = lI (rgI n) := by
  rw [rangeD_off]
  congr 1
  unfold rgI
  apply List.map_congr_left
  intro i _
  omega
/-- [e for x in l if c] -/
theorem lc_fil {g : D → Env → Cs → Ev Env} {c : Env → Cs → Ev Bool} {e : Env → Cs → Ev D} (P : Int → Bool) (f : Int → D) : ∀ {xs : List Int},
    (∀ a, a ∈ xs → ((g (.int a) ρ T).bind fun ρ1 T1 => c ρ1 T1) = .ok (P a) T) → (∀ a, a ∈ xs → P a = true → ((g (.int a) ρ T).bind fun ρ1 T1 => e ρ1 T1) = .ok (f a) T) → (∀ a, a ∈ xs → ∃ ρ1, g (.int a) ρ T = .ok ρ1 T) →
    lcEv g c e ρ (lI xs) T = .ok ((xs.filter P).map f) T
  | [], _, _, _ => rfl
  | a :: xs, h1, h2, h3 => by
    obtain ⟨ρ1, e1⟩ := h3 a List.mem_cons_self
    have c1 := h1 a List.mem_cons_self
    rw [e1] at c1
    have c1 : c ρ1 T = .ok (P a) T := c1
    have ih := lc_fil (g := g) (c := c) (e := e) P f (fun a ha => h1 a (List.mem_cons_of_mem _ ha)) (fun a ha => h2 a (List.mem_cons_of_mem _ ha)) (fun a ha => h3 a (List.mem_cons_of_mem _ ha))
    show ((g (.int a) ρ T).bind fun ρ1 T1 => (c ρ1 T1).bind fun b T2 => if b then (e ρ1 T2).bind fun x T3 => (lcEv g c e ρ (lI xs) T3).bind fun r T4 => .ok (x :: r) T4 else lcEv g c e ρ (lI xs) T2) = _
    rw [e1]
    show ((c ρ1 T).bind fun b T2 => if b then (e ρ1 T2).bind fun x T3 => (lcEv g c e ρ (lI xs) T3).bind fun r T4 => .ok (x :: r) T4 else lcEv g c e ρ (lI xs) T2) = _
    rw [c1]
    show (if P a = true then (e ρ1 T).bind fun x T3 => (lcEv g c e ρ (lI xs) T3).bind fun r T4 => Ev.ok (x :: r) T4 else lcEv g c e ρ (lI xs) T) = _
    cases hp : P a with
    | true =>
      have e2 := h2 a List.mem_cons_self hp
      rw [e1] at e2
      have e2 : e ρ1 T = .ok (f a) T := e2
      rw [if_pos rfl, e2, List.filter_cons, if_pos hp]
      show ((lcEv g c e ρ (lI xs) T).bind fun r T4 => Ev.ok (f a :: r) T4) = _
      rw [ih]; rfl
    | false =>
      rw [if_neg (by simp), ih, List.filter_cons, if_neg (by simp [hp])]
theorem any_int (a : Int) : ∀ l : List Int, ((lI l).any fun y => eqFl y (.int a)) = decide (a ∈ l)
  | [] => by simp [lI]
  | b :: l => by
    have ih := any_int a l
    have e : lI (b :: l) = .int b :: lI l := rfl
    rw [e, List.any_cons, ih]
    have e2 : eqFl (.int b) (.int a) = decide (b = a) := rfl
    rw [e2]
    by_cases h : b = a
    · simp [h]
    · have h' : ¬ a = b := fun q => h q.symm
      simp [h, h']
theorem flat_int : ∀ l : List Int, (lI l).all flatD = true
  | [] => rfl
  | b :: l => flat_int l
theorem notIn_o (a : Int) (l : List Int) : oNotIn.f [.v (.sh (.int a)), .v (.ow (lI l))] = some (.v (.sh (.bl (!decide (a ∈ l))))) := by
  have e : inR (.v (.sh (.int a))) (.v (.ow (lI l))) = some (decide (a ∈ l)) := by
    show (if (flatD (.int a) && (lI l).all flatD) = true then some ((lI l).any fun y => eqFl y (.int a)) else none) = _
    rw [flat_int, any_int]; rfl
  show (inR (.v (.sh (.int a))) (.v (.ow (lI l)))).map _ = _
  rw [e]; rfl
theorem cut_from (l : List Int) {n : Int} (h0 : 0 ≤ n) (h1 : n ≤ l.length) : cutD (lI l) (some n) none = lI (l.drop n.toNat) := by
  have e : cutD (lI l) (some n) none = ((lI l).drop (if n < 0 then (n + ((lI l).length : Int)).toNat else min n.toNat (lI l).length)).take ((lI l).length - (if n < 0 then (n + ((lI l).length : Int)).toNat else min n.toNat (lI l).length)) := rfl
  rw [e, if_neg (by omega), lI_len]
  have e2 : min n.toNat l.length = n.toNat := by omega
  rw [e2]
  unfold lI
  rw [← List.map_drop, ← List.map_take]
  congr 1
  rw [List.take_of_length_le (by rw [List.length_drop]; omega)]
end
end Tp
end
section
set_option Elab.async false
set_option linter.all false
set_option maxRecDepth 100000
set_option maxHeartbeats 1000000
/-! EvV: repr of any lists and tuples of ints: a text equal to itself. -/
namespace Tp
open PySem
mutual
/-- ints below 10 ^ 18, lists and tuples of such -/
def iD : D → Bool
  | .int i => decide (-1000000000000000000 < i) && decide (i < 1000000000000000000)
  | .lst xs => iDs xs
  | .tup xs => iDs xs
  | .non => true
  | .bl _ => true
  | _ => false
def iDs : List D → Bool
  | [] => true
  | x :: xs => iD x && iDs xs
end
mutual
def szD : D → Nat
  | .int _ => 19
  | .lst xs => szDs xs + 3
  | .tup xs => szDs xs + 3
  | _ => 5
def szDs : List D → Nat
  | [] => 0
  | x :: xs => szD x + 2 + szDs xs
end
mutual
def dpD : D → Nat
  | .lst xs => dpDs xs + 1
  | .tup xs => dpDs xs + 1
  | _ => 0
def dpDs : List D → Nat
  | [] => 0
  | x :: xs => max (dpD x) (dpDs xs)
end
theorem strOk_join : ∀ (ts : List Str), (∀ t, t ∈ ts → PyData.strOk t = true) → PyData.strOk (Str.join ", " ts) = true
  | [], _ => strOk_of ""
  | [x], h => h x List.mem_cons_self
  | x :: y :: r, h => strOk_app (strOk_app (h x List.mem_cons_self) (strOk_of _)) (strOk_join (y :: r) fun t ht => h t (List.mem_cons_of_mem _ ht))
theorem strOk_list (ts : List Str) (h : ∀ t, t ∈ ts → PyData.strOk t = true) : PyData.strOk (listText ts) = true := strOk_app (strOk_from _ _ _ (strOk_of _) h) (strOk_of _)
theorem strOk_tuple (ts : List Str) (h : ∀ t, t ∈ ts → PyData.strOk t = true) : PyData.strOk (tupleText ts) = true := strOk_app (strOk_app (strOk_of _) (strOk_join _ h)) (strOk_of _)
structure ShP (d : D) (p : PyData) : Prop where
  py : toPy d = some p
  sz : ∃ n, shB p = some n ∧ n ≤ szD d
  dp : p.depth ≤ dpD d
  ok : PyData.strOk p.shown = true
structure ShPs (ds : List D) (ps : List PyData) : Prop where
  py : toPys ds = some ps
  sz : ∃ n, shBs ps = some n ∧ n ≤ szDs ds
  dp : PyData.depthAll ps ≤ dpDs ds
  ok : ∀ t, t ∈ PyData.shownAll ps → PyData.strOk t = true
mutual
theorem sh_D : ∀ (d : D), iD d = true → ∃ p, ShP d p
  | .int i, h => by
    simp only [iD] at h
    obtain ⟨h1, h2⟩ := Bool.and_eq_true_iff.mp h
    have h1 := of_decide_eq_true h1
    have h2 := of_decide_eq_true h2
    exact ⟨.int i, by simp only [toPy], ⟨19, by simp only [shB]; rw [if_pos ⟨h1, h2⟩], by simp only [szD]; exact Nat.le_refl _⟩, by simp only [PyData.depth]; exact Nat.zero_le _, by simp only [PyData.shown]; exact strOk_of _⟩
  | .non, _ => ⟨.none, by simp only [toPy], ⟨4, by simp only [shB], by simp only [szD]; omega⟩, by simp only [PyData.depth]; exact Nat.zero_le _, by simp only [PyData.shown]; exact strOk_of _⟩
  | .bl b, _ => ⟨.bool b, by simp only [toPy], ⟨5, by simp only [shB], by simp only [szD]; omega⟩, by simp only [PyData.depth]; exact Nat.zero_le _, by simp only [PyData.shown]; split <;> exact strOk_of _⟩
  | .lst xs, h => by
    simp only [iD] at h
    obtain ⟨ps, q⟩ := sh_Ds xs h
    obtain ⟨n, n1, n2⟩ := q.sz
    refine ⟨.list ps, by simp only [toPy, q.py]; rfl, ⟨n + 2, by simp only [shB, n1]; rfl, by simp only [szD]; omega⟩, ?_, ?_⟩
    · have := q.dp
      simp only [PyData.depth, dpD]; omega
    · simp only [PyData.shown]; exact strOk_list _ q.ok
  | .tup xs, h => by
    simp only [iD] at h
    obtain ⟨ps, q⟩ := sh_Ds xs h
    obtain ⟨n, n1, n2⟩ := q.sz
    refine ⟨.tuple ps, by simp only [toPy, q.py]; rfl, ⟨n + 3, by simp only [shB, n1]; rfl, by simp only [szD]; omega⟩, ?_, ?_⟩
    · have := q.dp
      simp only [PyData.depth, dpD]; omega
    · simp only [PyData.shown]; exact strOk_tuple _ q.ok
  | .str _, h => by simp only [iD] at h; cases h
  | .fz _, h => by simp only [iD] at h; cases h
  | .dct _, h => by simp only [iD] at h; cases h
  | .obj _ _, h => by simp only [iD] at h; cases h
  | .cell _, h => by simp only [iD] at h; cases h
theorem sh_Ds : ∀ (ds : List D), iDs ds = true → ∃ ps, ShPs ds ps
  | [], _ => ⟨[], by simp only [toPys], ⟨0, by simp only [shBs], Nat.zero_le _⟩, by simp only [PyData.depthAll]; exact Nat.zero_le _, fun t h => by simp only [PyData.shownAll] at h; cases h⟩
  | x :: xs, h => by
    simp only [iDs] at h
    obtain ⟨h1, h2⟩ := Bool.and_eq_true_iff.mp h
    obtain ⟨p, q⟩ := sh_D x h1
    obtain ⟨ps, r⟩ := sh_Ds xs h2
    obtain ⟨n, n1, n2⟩ := q.sz
    obtain ⟨m, m1, m2⟩ := r.sz
    refine ⟨p :: ps, by simp only [toPys, q.py, r.py], ⟨n + 2 + m, by simp only [shBs, n1, m1]; rfl, by simp only [szDs]; omega⟩, ?_, fun t ht => ?_⟩
    · have := q.dp
      have := r.dp
      simp only [PyData.depthAll, dpDs]; omega
    · simp only [PyData.shownAll, List.mem_cons] at ht
      rcases ht with rfl | ht
      · exact q.ok
      · exact r.ok t ht
end
/-- a list, shown -/
theorem repr_gen {ds : List D} (h : iDs ds = true) (hz : szDs ds ≤ 999990) (hd : dpDs ds ≤ 50) : ∃ s : Str, PyData.strOk s = true ∧ bRepr.f [.v (.ow ds)] = some (.v (.sh (.str s))) ∧ bRepr.f [.v (.sh (.lst ds))] = some (.v (.sh (.str s))) := by
  obtain ⟨ps, q⟩ := sh_Ds ds h
  obtain ⟨n, n1, n2⟩ := q.sz
  have hs : okShow (.list ps) = true := by
    have e : shB (.list ps) = some (n + 2) := by simp only [shB, n1]; rfl
    have := q.dp
    unfold okShow
    rw [e]
    have e2 : PyData.depth (.list ps) = PyData.depthAll ps + 1 := by simp only [PyData.depth]
    show (decide (n + 2 ≤ 1000000) && decide (PyData.depth (.list ps) ≤ 60)) = true
    rw [decide_eq_true (by omega : n + 2 ≤ 1000000), decide_eq_true (by omega : PyData.depth (.list ps) ≤ 60)]; rfl
  refine ⟨PyData.shown (.list ps), by simp only [PyData.shown]; exact strOk_list _ q.ok, ?_, ?_⟩
  · show (rPy (.v (.ow ds))).bind _ = _
    have e : rPy (.v (.ow ds)) = some (.list ps) := by show (toPys ds).map _ = _; rw [q.py]; rfl
    rw [e]
    show (if okShow (.list ps) = true then _ else none) = _
    rw [if_pos hs]
  · show (rPy (.v (.sh (.lst ds)))).bind _ = _
    have e : rPy (.v (.sh (.lst ds))) = some (.list ps) := by show toPy (.lst ds) = _; simp only [toPy, q.py]; rfl
    rw [e]
    show (if okShow (.list ps) = true then _ else none) = _
    rw [if_pos hs]
theorem ne_str {s : Str} (h : PyData.strOk s = true) : fNe [.v (.sh (.str s)), .v (.sh (.str s))] = some (.v (.sh (.bl false))) := by
  show (eqR _ _).map _ = _
  rw [eqR_str h]; rfl
theorem eq_str {s : Str} (h : PyData.strOk s = true) : fEq [.v (.sh (.str s)), .v (.sh (.str s))] = some (.v (.sh (.bl true))) := by
  show (eqR _ _).map _ = _
  rw [eqR_str h]; rfl
theorem iDs_int : ∀ {l : List Int}, (∀ x, x ∈ l → -1000000000000000000 < x ∧ x < 1000000000000000000) → iDs (lI l) = true
  | [], _ => by simp only [lI, List.map_nil, iDs]
  | a :: l, h => by
    have ih := iDs_int (l := l) fun x hx => h x (List.mem_cons_of_mem _ hx)
    have h0 := h a List.mem_cons_self
    unfold lI at ih ⊢
    simp only [List.map_cons, iDs, iD]
    rw [ih, decide_eq_true h0.1, decide_eq_true h0.2]; rfl
theorem szDs_int : ∀ (l : List Int), szDs (lI l) = 21 * l.length
  | [] => by simp only [lI, List.map_nil, szDs, List.length_nil, Nat.mul_zero]
  | a :: l => by
    have ih := szDs_int l
    unfold lI at ih ⊢
    simp only [List.map_cons, szDs, szD, ih, List.length_cons]; omega
theorem dpDs_int : ∀ (l : List Int), dpDs (lI l) = 0
  | [] => by simp only [lI, List.map_nil, dpDs]
  | a :: l => by
    have ih := dpDs_int l
    unfold lI at ih ⊢
    simp only [List.map_cons, dpDs, dpD, ih]; rfl
end Tp
end
section
set_option Elab.async false
set_option linter.all false
set_option maxRecDepth 100000
namespace Lw
open PySem Tp Fq
def fO (F : Fld) : D := .obj 0 [.int F.p, .int F.t, .int F.q, .lst (lI F.m), .lst (lI F.pw), .lst (lI F.lg)]
theorem fO_p (F : Fld) : fldR [0] "own_prime" (.v (.sh (fO F))) = some (.v (.sh (.int F.p))) := rfl
theorem fO_t (F : Fld) : fldR [0] "own_turns" (.v (.sh (fO F))) = some (.v (.sh (.int F.t))) := rfl
theorem fO_q (F : Fld) : fldR [0] "own_size" (.v (.sh (fO F))) = some (.v (.sh (.int F.q))) := rfl
theorem fO_m (F : Fld) : fldR [0] "own_modulus" (.v (.sh (fO F))) = some (.v (.sh (.lst (lI F.m)))) := rfl
theorem fO_w (F : Fld) : fldR [0] "own_powers" (.v (.sh (fO F))) = some (.v (.sh (.lst (lI F.pw)))) := rfl
theorem fO_l (F : Fld) : fldR [0] "own_logs" (.v (.sh (fO F))) = some (.v (.sh (.lst (lI F.lg)))) := rfl
section
variable {F : Fld} [h : FOk F] {T : Cs}
structure Sm (F : Fld) : Prop where
  p2 : 2 ≤ (F.p : Int)
  pq : (F.p : Int) < F.q
  q4 : 4 ≤ (F.q : Int)
  q128 : (F.q : Int) ≤ 128
  t2 : 2 ≤ (F.t : Int)
  tq : (F.t : Int) < 128
theorem sm (F : Fld) [h : FOk F] : Sm F := by
  have h1 := facts F
  have h2 := p_lt (F := F)
  have h3 := q3 (F := F)
  have h4 : F.t < F.q := by
    unfold Fld.q
    exact Nat.lt_of_lt_of_le Nat.lt_two_pow_self (Nat.pow_le_pow_left h1.p2 _)
  have := h1.p2
  have := h1.t2
  have := h1.sm
  exact ⟨by omega, h2, by omega, by omega, by omega, by omega⟩
theorem dig_app (p : Int) : ∀ (n : Nat) (x : Int), dig p (n + 1) x = x % p :: dig p n (x / p) := fun _ _ => rfl
theorem fold_und (p : Int) : ∀ (l : List Int) , (l.reverse).foldl (fun f d => f * p + d) 0 = und p l
  | [] => rfl
  | d :: l => by
    rw [List.reverse_cons, List.foldl_append, fold_und p l]
    simp only [List.foldl_cons, List.foldl_nil, und]
    rw [Int.mul_comm]; omega
theorem add_1 (a b : El F) : (a + b).1 = und F.p (nm F.p (zp (F.vec a.1) (F.vec b.1))) := rfl
theorem sub_1 (a b : El F) : (a - b).1 = und F.p (nm F.p (zp (F.vec a.1) (ng (F.vec b.1)))) := by
  show und F.p (nm F.p (zp (F.vec a.1) (F.vec (El.neg b).1))) = _
  rw [vec_neg, nm_zp2]
theorem nm_zip {p : Int} (a b : List Int) : nm p (zp a b) = List.zipWith (fun x y => (x + y) % p) a b := by
  unfold nm zp
  rw [List.map_zipWith]
theorem nm_zipn {p : Int} (a b : List Int) : nm p (zp a (ng b)) = List.zipWith (fun x y => (x - y) % p) a b := by
  unfold nm zp ng
  rw [List.map_zipWith, List.zipWith_map_right]
  rfl
theorem mul_1 (a b : El F) : (a * b).1 = F.mulc a.1 b.1 := rfl
theorem isi_F : isiR [0] [.o 0] (.v (.sh (fO F))) = some (.v (.sh (.bl true))) := rfl
theorem isi_F2 : isiR [0, 3] [.o 0] (.v (.sh (fO F))) = some (.v (.sh (.bl true))) := rfl
theorem isi_F3 : isiR [0, 1, 2] [.o 0] (.v (.sh (fO F))) = some (.v (.sh (.bl true))) := rfl
theorem isi_F4 : isiR [0, 1, 2, 3] [.o 0] (.v (.sh (fO F))) = some (.v (.sh (.bl true))) := rfl
theorem is_integer (i : Int) : e_is_integer [.int i] T = .ok (.sh (.bl true)) T := by
  unfold e_is_integer t_is_integer
  dsimp! only []
theorem is_count (i : Int) (h0 : 0 ≤ i) : e_is_count [.int i] T = .ok (.sh (.bl true)) T := by
  unfold e_is_count t_is_count
  dsimp! only [is_integer, h0]
theorem is_in (a : El F) : e_is_in [fO F, .int a.1] T = .ok (.sh (.bl true)) T := by
  have a1 := a.2.1
  have a2 := a.2.2
  unfold e_is_in t_is_in
  dsimp! only [is_count, fO_q, a2]
theorem want_field : e_want_field [fO F] T = .ok (.sh (fO F)) T := by
  unfold e_want_field t_want_field
  dsimp! only [isi_F, isi_F2, isi_F3, isi_F4]
end
end Lw
end
section
set_option Elab.async false
set_option linter.all false
set_option maxRecDepth 100000
set_option maxHeartbeats 1000000
namespace Lw
open PySem Tp Fq
theorem md (a p : Int) : a - a / p * p = a % p := by rw [Int.emod_def, Int.mul_comm]
section
variable {F : Fld} [h : FOk F] {T : Cs}
theorem mlen : ((F.m.length : Nat) : Int) - 1 = (F.t : Int) := by have := (facts F).ml; omega
theorem lsize_loop (B : Option LV) : ∀ (n : Nat) (k f : Int) (v : Option LV), ∃ v', forEv (gNm 3).ev w1__law_size.ev (rangeD k 1 n) [some (.sh (.int F.p)), B, some (.sh (.int f)), v] T = .ok (.nx [some (.sh (.int F.p)), B, some (.sh (.int (f * F.p ^ n))), v']) T
  | 0, k, f, v => ⟨v, by simp only [rangeD, Int.pow_zero, Int.mul_one]; rfl⟩
  | n + 1, k, f, v => by
    have S := sm F
    obtain ⟨v', ih⟩ := lsize_loop B n (k + 1) (f * F.p) (some (.sh (.int k)))
    refine ⟨v', ?_⟩
    have p2 := S.p2
    have pq := S.pq
    have q1 := S.q128
    rw [show rangeD k 1 (n + 1) = .int k :: rangeD (k + 1) 1 n from rfl]
    unfold w1__law_size at ih ⊢
    dsimp! only [ih]
    rw [Int.pow_succ, Int.mul_assoc, Int.mul_comm ((F.p : Int))]
theorem lsize : e__law_size [.int F.p, .lst (lI F.m)] T = .ok (.sh (.int F.q)) T := by
  have S := sm F
  have t2 := S.t2
  have tq := S.tq
  obtain ⟨v', e⟩ := lsize_loop (F := F) (T := T) (some (.sh (.lst (lI F.m)))) F.t 0 1 none
  rw [← qq, Int.one_mul] at e
  unfold e__law_size t__law_size
  dsimp! only [mlen, Int.toNat_natCast, e]
theorem zipWith_map_nm (p : Int) (f : Int → Int → Int) (a b : List Int) : (List.zipWith f a b).map (· % p) = nm p (List.zipWith f a b) := rfl
end
end Lw
end
section
set_option Elab.async false
set_option linter.all false
set_option maxRecDepth 100000
set_option maxHeartbeats 1000000
namespace Tp
theorem rep_i (c : Int) {k : Int} (h0 : 0 ≤ k) (h1 : k < 100000) : fMul [.v (.ow [.int c]), .v (.sh (.int k))] = some (.v (.ow (lI (List.replicate k.toNat c)))) := by
  have e : (List.replicate k.toNat [D.int c]).flatten = lI (List.replicate k.toNat c) := by
    unfold lI
    induction k.toNat with
    | zero => rfl
    | succ n ih => rw [List.replicate_succ, List.flatten_cons, ih]; rfl
  show (if _ then some (R.v (.ow (List.replicate k.toNat [D.int c]).flatten)) else none) = _
  rw [if_pos, e]
  refine ⟨by omega, by omega, ?_⟩
  show 1 * k.toNat ≤ 1000000
  omega
theorem cut_pre (l : List Int) {n : Int} (h0 : 0 ≤ n) (h1 : n ≤ l.length) : cutD (lI l) none (some n) = lI (l.take n.toNat) := by
  have e : cutD (lI l) none (some n) = (lI l).take (if n < 0 then (n + ((lI l).length : Int)).toNat else min n.toNat (lI l).length) := rfl
  rw [e, if_neg (by omega), lI_len]
  unfold lI
  rw [List.map_take]
  congr 1
  omega
theorem fSl_b (xs : List D) (lo hi : Option Int) : fSl (.bw xs) lo hi = some (.v (.ow (cutD xs lo hi))) := rfl
theorem fSl_l (xs : List D) (lo hi : Option Int) : fSl (.v (.sh (.lst xs))) lo hi = some (.v (.ow (cutD xs lo hi))) := rfl
theorem fSl_f (xs : List D) (lo hi : Option Int) : fSl (.v (.sh (.fz xs))) lo hi = some (.v (.ow (cutD xs lo hi))) := rfl
theorem fSl_o (xs : List D) (lo hi : Option Int) : fSl (.v (.ow xs)) lo hi = some (.v (.ow (cutD xs lo hi))) := rfl
end Tp
namespace Lw
open PySem Tp Fq
section
variable {F : Fld} [h : FOk F] {T : Cs}
theorem enum_c (k : Nat) (a : Int) (l : List Int) : enumD (k : Int) (lI (a :: l)) = .tup [.int (k : Int), .int a] :: enumD ((k + 1 : Nat) : Int) (lI l) := rfl
theorem toN2 (a b : Nat) : ((a : Int) + (b : Int)).toNat = a + b := by omega
theorem getD_ne (l : List Int) (i j : Nat) (v : Int) (hn : i ≠ j) : (l.set i v).getD j 0 = l.getD j 0 := by
  rw [List.getD_eq_getElem?_getD, List.getElem?_set_ne hn, List.getD_eq_getElem?_getD]
theorem getD_eq (l : List Int) (i : Nat) (v : Int) (hi : i < l.length) : (l.set i v).getD i 0 = v := by
  rw [List.getD_eq_getElem?_getD, List.getElem?_set_self hi]; rfl
theorem toN3 (b t k : Nat) : (((b + t : Nat) : Int) - (t : Int) + (k : Int)).toNat = b + k := by omega
theorem drop_get (l : List Int) (k : Nat) (hk : k < l.length) : l.drop k = l.getD k 0 :: l.drop (k + 1) := by
  rw [List.drop_eq_getElem_cons hk, List.getD_eq_getElem?_getD, List.getElem?_eq_getElem hk]; rfl
theorem m_rg (k : Nat) (hk : k ≤ F.t) : 0 ≤ F.m.getD k 0 ∧ F.m.getD k 0 < 128 := by
  have hl := (facts F).ml
  have hk' : k < F.m.length := by omega
  have e : F.m.getD k 0 = F.m[k] := by rw [List.getD_eq_getElem?_getD, List.getElem?_eq_getElem hk']; rfl
  have h1 := (facts F).mr F.m[k] (List.getElem_mem hk')
  have := (sm F).pq
  have := (sm F).q128
  rw [e]; omega
theorem ev_mt : El.ev (F := F) (F.m.take F.t) = - ((El.X : El F) ^ F.t) := by
  have hml := (facts F).ml
  have e : F.m = F.m.take F.t ++ [1] := by
    have h1 := List.take_append_drop F.t F.m
    rw [drop_get _ _ (by omega), List.drop_eq_nil_iff.mpr (by omega)] at h1
    have h2 := (facts F).mt
    unfold at0 at h2
    rw [Int.toNat_natCast] at h2
    rw [h2] at h1
    exact h1.symm
  have h1 := ev_m (F := F)
  rw [e, ev_app, ev_one, cast_one, ← one_eq, List.length_take, Nat.min_eq_left (by omega)] at h1
  grind
theorem ev_tail (found : List Int) (hz : ∀ j, F.t ≤ j → found.getD j 0 = 0) : El.ev (F := F) found = El.ev (F := F) (found.take F.t) := by
  have hd : ∀ (l : List Int), (∀ j, l.getD j 0 = 0) → El.ev (F := F) l = 0 := by
    intro l
    induction l with
    | nil => intro _; rfl
    | cons a l ih =>
      intro hz
      have h0 : a = 0 := hz 0
      have h1 := ih fun j => hz (j + 1)
      show El.cast (F := F) a + (El.X : El F) * El.ev (F := F) l = 0
      rw [h1, h0, cast_zero, ← zero_eq]
      grind
  have h1 := hd (found.drop F.t) fun j => by
    rw [List.getD_eq_getElem?_getD, List.getElem?_drop, ← List.getD_eq_getElem?_getD]
    exact hz _ (by omega)
  have h2 : El.ev (F := F) found = El.ev (F := F) (found.take F.t ++ found.drop F.t) := by rw [List.take_append_drop]
  rw [h2, ev_app, h1]
  grind
theorem el_bd (a : El F) : -1000000000000000000 < a.1 ∧ a.1 < 1000000000000000000 := by
  have := a.2
  have := (sm F).q128
  omega
end
end Lw
end
section
set_option Elab.async false
set_option linter.all false
set_option maxRecDepth 100000
set_option maxHeartbeats 1000000
/-! EvT: powers, turns, norms, traces. -/
namespace Tp
section
variable {ρ : Env} {T : Cs}
def proK (c : Nat) (ev : FEv) (T1 : Cs) (d : D) : Ev R := match d with
  | .obj c' xs => if c' = c then (match ev [.obj c xs] T1 with
    | .ok lv T3 => Ev.opt (toR lv) T3
    | _ => .no) else .no
  | _ => .no
theorem cProp_e (c : Nat) (m : PySem.Str) (s : DefSig) (ev : FEv) (o : CE) {sr : List Src} (B : BindOk s 1 [] sr) : (cProp c m s ev o B).ev ρ T = (evD o.ev ρ T).bind fun d T1 => proK c ev T1 d := rfl
theorem is_f : oIs.f = oIs.f := rfl
theorem isNot_in (i : Int) : oIsNot.f [.v (.sh (.int i)), .v (.sh .non)] = some (.v (.sh (.bl true))) := rfl
theorem isNot_nn : oIsNot.f [.v (.sh .non), .v (.sh .non)] = some (.v (.sh (.bl false))) := rfl
end
end Tp
namespace Lw
open PySem Tp Fq
section
variable {F : Fld} [h : FOk F] {T : Cs}
theorem size_e : e_Field_size [fO F] T = .ok (.sh (.int F.q)) T := by
  unfold e_Field_size t_Field_size
  dsimp! only [fO_q]
theorem turns_e : e_Field_turns [fO F] T = .ok (.sh (.int F.t)) T := by
  unfold e_Field_turns t_Field_turns
  dsimp! only [fO_t]
theorem pro_size : proK 0 e_Field_size T (fO F) = .ok (.v (.sh (.int F.q))) T := by
  have e := size_e (F := F) (T := T)
  show (match e_Field_size [fO F] T with
    | .ok lv T3 => Ev.opt (toR lv) T3
    | _ => .no) = _
  rw [e]; rfl
theorem pro_turns : proK 0 e_Field_turns T (fO F) = .ok (.v (.sh (.int F.t))) T := by
  have e := turns_e (F := F) (T := T)
  show (match e_Field_turns [fO F] T with
    | .ok lv T3 => Ev.opt (toR lv) T3
    | _ => .no) = _
  rw [e]; rfl
end
end Lw
end
section
set_option Elab.async false
set_option linter.all false
set_option maxRecDepth 100000
set_option maxHeartbeats 1000000
namespace Tp
theorem sum_o (l : List Int) : bSum.f [.v (.ow (lI l))] = some (.v (.sh (.int l.sum))) := by
  have e : ∀ l : List Int, intsOf (lI l) = some l := by
    intro l
    induction l with
    | nil => rfl
    | cons a l ih =>
      have e2 : intsOf (lI (a :: l)) = (intsOf (lI l)).map fun r => a :: r := rfl
      rw [e2, ih]; rfl
  show (intsOf (lI l)).map _ = _
  rw [e]; rfl
theorem pow18 : iF powI [.v (.sh (.int 10)), .v (.sh (.int 18))] = some (.v (.sh (.int 1000000000000000000))) := rfl
theorem pow_f : oPow.f = iF powI := rfl
end Tp
namespace Lw
open PySem Tp Fq
def pt (a b : Int) (R : Cs) : Cs := [.int a, .int b] :: R
theorem pt_0 (a b : Int) (R : Cs) : (pt a b R)[0]? = some [.int a, .int b] := rfl
theorem pt_s (a b : Int) (R : Cs) (x y : Int) : (pt a b R).set 0 [.int x, .int y] = pt x y R := rfl
theorem gixC_0 (a b : Int) (R : Cs) (ρ : Tp.Env) (d : Int) : gixC 0 (.int d) (.v (.sh (.int 0))) ρ (pt a b R) (some [.int a, .int b]) = .ok ρ (pt d b R) := by
  rw [gixC_s _ _ _ _ _ (setAt_c0 _ _ _)]; rfl
theorem gixC_1 (a b : Int) (R : Cs) (ρ : Tp.Env) (d : Int) : gixC 0 (.int d) (.v (.sh (.int 1))) ρ (pt a b R) (some [.int a, .int b]) = .ok ρ (pt a d R) := by
  rw [gixC_s _ _ _ _ _ (setAt_c1 _ _ _ _)]; rfl
theorem draw (n a b : Int) (R : Cs) (h0 : 0 < n) (h1 : n < 1000000) (ha : 0 ≤ a) : ∃ d a' b', 0 ≤ d ∧ d < n ∧ 0 ≤ a' ∧ e__law_draw [.cell 0, .int n] (pt a b R) = .ok (.sh (.int d)) (pt a' b' R) := by
  unfold e__law_draw t__law_draw
  by_cases hp : 0 < a
  · have hd := decide_eq_true hp
    refine ⟨a % n, a / n, b, Int.emod_nonneg _ (by omega), Int.emod_lt_of_pos _ h0, Int.ediv_nonneg ha (by omega), ?_⟩
    dsimp! only [fIx_c, pt_0, hd, gixC_0]
  · have hd := decide_eq_false hp
    have hm := Int.emod_nonneg (b * 40692 + 7151) (show (2147483587 : Int) ≠ 0 by decide)
    have hm2 := Int.emod_lt_of_pos (b * 40692 + 7151) (show (0 : Int) < 2147483587 by decide)
    refine ⟨((b * 40692 + 7151) % 2147483587 * ((b * 40692 + 7151) % 2147483587)) % 2147483629 / 19 % n, a, (b * 40692 + 7151) % 2147483587, Int.emod_nonneg _ (by omega), Int.emod_lt_of_pos _ h0, ha, ?_⟩
    dsimp! only [fIx_c, pt_0, hd, gixC_1]
theorem pick (ds : List D) (a b : Int) (R : Cs) (h0 : 0 < ds.length) (h1 : ds.length < 1000) (ha : 0 ≤ a) (hr : ∀ d, d ∈ ds → ∃ xs, d = .tup xs) : ∃ d a' b', d ∈ ds ∧ 0 ≤ a' ∧ e__law_pick [.cell 0, .lst ds] (pt a b R) = .ok (.sh d) (pt a' b' R) := by
  obtain ⟨d, a', b', d0, d1, ha', e⟩ := draw ds.length a b R (by omega) (by omega) ha
  have hl : d.toNat < ds.length := by omega
  refine ⟨ds[d.toNat], a', b', List.getElem_mem hl, ha', ?_⟩
  have e2 : L2.atI ds d = some ds[d.toNat] := by rw [atI_nn d0 d1, List.getElem?_eq_getElem hl]
  unfold e__law_pick t__law_pick
  dsimp! only [e, e2]
def pr (F : Fld) : D := .tup [.int F.p, .lst (lI F.m)]
theorem add_43 (a1 a2 a3 a4 b1 b2 b3 : D) : fAdd [.v (.sh (.lst [a1, a2, a3, a4])), .v (.ow [b1, b2, b3])] = some (.v (.ow [a1, a2, a3, a4, b1, b2, b3])) := add_lo _ _ (by simp)
def A1 : List D := [.tup [.int 2, .lst [.int 1, .int 1, .int 1]], .tup [.int 2, .lst [.int 1, .int 1, .int 0, .int 1]], .tup [.int 2, .lst [.int 1, .int 0, .int 1, .int 1]], .tup [.int 2, .lst [.int 1, .int 1, .int 0, .int 0, .int 1]], .tup [.int 3, .lst [.int 1, .int 0, .int 1]], .tup [.int 3, .lst [.int 2, .int 1, .int 1]], .tup [.int 5, .lst [.int 2, .int 0, .int 1]]]
def A2 : List D := [.tup [.int 2, .lst [.int 1, .int 0, .int 1, .int 0, .int 0, .int 1]], .tup [.int 2, .lst [.int 1, .int 1, .int 0, .int 0, .int 0, .int 0, .int 1]], .tup [.int 3, .lst [.int 1, .int 2, .int 0, .int 1]], .tup [.int 7, .lst [.int 1, .int 0, .int 1]], .tup [.int 5, .lst [.int 1, .int 1, .int 0, .int 1]], .tup [.int 2, .lst [.int 1, .int 1, .int 0, .int 0, .int 0, .int 0, .int 0, .int 1]], .tup [.int 3, .lst [.int 2, .int 1, .int 0, .int 0, .int 1]]]
theorem field (a b : Int) (R : Cs) (ha : 0 ≤ a) : ∃ (F : Fld) (a' b' : Int), F ∈ flds ∧ 0 ≤ a' ∧ e__law_field [.cell 0] (pt a b R) = .ok (.sh (pr F)) (pt a' b' R) := by
  obtain ⟨d, a1, b1, d0, d1, h1, e1⟩ := draw 5 a b R (by omega) (by omega) ha
  by_cases hd0 : d = 0
  · have hd := decide_eq_true hd0
    obtain ⟨x, a2, b2, hx, h2, e2⟩ := pick A2 a1 b1 R (by decide) (by decide) h1 (by simp [A2])
    have main : e__law_field [.cell 0] (pt a b R) = .ok (.sh x) (pt a2 b2 R) := by
      unfold A2 at e2
      unfold e__law_field t__law_field
      dsimp! only [e1, hd, add_43, e2]
    simp only [A2, List.mem_cons, List.not_mem_nil, or_false] at hx
    rcases hx with rfl | rfl | rfl | rfl | rfl | rfl | rfl
    · exact ⟨f7, a2, b2, by simp [flds], h2, main⟩
    · exact ⟨f8, a2, b2, by simp [flds], h2, main⟩
    · exact ⟨f9, a2, b2, by simp [flds], h2, main⟩
    · exact ⟨f10, a2, b2, by simp [flds], h2, main⟩
    · exact ⟨f11, a2, b2, by simp [flds], h2, main⟩
    · exact ⟨f12, a2, b2, by simp [flds], h2, main⟩
    · exact ⟨f13, a2, b2, by simp [flds], h2, main⟩
  · have hd := decide_eq_false hd0
    obtain ⟨x, a2, b2, hx, h2, e2⟩ := pick A1 a1 b1 R (by decide) (by decide) h1 (by simp [A1])
    have main : e__law_field [.cell 0] (pt a b R) = .ok (.sh x) (pt a2 b2 R) := by
      unfold A1 at e2
      unfold e__law_field t__law_field
      dsimp! only [e1, hd, add_43, e2]
    simp only [A1, List.mem_cons, List.not_mem_nil, or_false] at hx
    rcases hx with rfl | rfl | rfl | rfl | rfl | rfl | rfl
    · exact ⟨f0, a2, b2, by simp [flds], h2, main⟩
    · exact ⟨f1, a2, b2, by simp [flds], h2, main⟩
    · exact ⟨f2, a2, b2, by simp [flds], h2, main⟩
    · exact ⟨f3, a2, b2, by simp [flds], h2, main⟩
    · exact ⟨f4, a2, b2, by simp [flds], h2, main⟩
    · exact ⟨f5, a2, b2, by simp [flds], h2, main⟩
    · exact ⟨f6, a2, b2, by simp [flds], h2, main⟩
theorem pot (ns : List Int) : ∃ a b, 0 ≤ a ∧ ∀ T, e__law_pot [.fz (lI ns), .int 0] T = .ok (.ow [.int a, .int b]) T := by
  cases ns with
  | nil => exact ⟨0, 2145053, by decide, fun T => by kernel_rfl⟩
  | cons x r =>
    have h1 : (0 : Int) < (((x :: r).length : Nat) : Int) := by simp only [List.length_cons]; omega
    have hd := decide_eq_true h1
    have e2 : L2.atI (lI (x :: r)) 0 = some (.int x) := atI_ii (Int.le_refl 0) h1
    have e3 : (((lI (x :: r)).length : Nat) : Int) = (((x :: r).length : Nat) : Int) := by rw [lI_len]
    refine ⟨if (if x < 0 then -x else x) - 1000000000000000000 > 0 then (if x < 0 then -x else x) - 1000000000000000000 else 0, ((if x < 0 then -x else x) % 2147483549 * 40471 + 7127 * 0 + 89) % 2147483563 + 1, ?_, fun T => ?_⟩
    · split
      · omega
      · omega
    · generalize lI (x :: r) = L at e2 e3 ⊢
      rw [← e3] at hd
      unfold e__law_pot t__law_pot
      dsimp! only [hd, e2, pow_f, pow18]
end Lw
end
section
set_option Elab.async false
set_option linter.all false
set_option maxRecDepth 100000
set_option maxHeartbeats 1000000
/-! EvG: polynomials of the package. -/
namespace Tp
theorem getD_el {l : List Int} {i : Nat} (hi : i < l.length) : l.getD i 0 = l[i] := by rw [List.getD_eq_getElem?_getD, List.getElem?_eq_getElem hi]; rfl
theorem take_s {l : List Int} {i : Nat} (hi : i < l.length) : l.take (i + 1) = l.take i ++ [l.getD i 0] := by
  rw [List.take_succ_eq_append_getElem hi, getD_el hi]
theorem atI_m1 {l : List Int} (h : 0 < l.length) : L2.atI (lI l) (-1) = some (.int (l.getD (l.length - 1) 0)) := by
  unfold L2.atI L2.ixN
  rw [if_neg (by omega), if_pos (by rw [lI_len]; omega), lI_len]
  show (lI l)[((-1 : Int) + (l.length : Int)).toNat]? = _
  have e : ((-1 : Int) + (l.length : Int)).toNat = l.length - 1 := by omega
  have h2 : l.length - 1 < l.length := by omega
  rw [e]
  unfold lI
  rw [List.getElem?_map, List.getElem?_eq_getElem h2, getD_el h2]; rfl
end Tp
namespace Lw
open PySem Tp Fq
section
variable {F : Fld} [h : FOk F] {T : Cs}
theorem sub1 (k : Nat) : (((k + 1 : Nat) : Int) - 1).toNat = k := by omega
theorem sub1' (k : Nat) : ((k + 1 : Nat) : Int) - 1 = (k : Int) := by omega
theorem we_loop (l : List Int) : ∀ (k n : Nat), k < n → k ≤ l.length → ∃ k' : Nat, k' ≤ l.length ∧ whileEv u1_without_end.ev w1_without_end.ev n [some (.sh (.lst (lI l))), some (.sh (.int (k : Int)))] T = .ok (.nx [some (.sh (.lst (lI l))), some (.sh (.int (k' : Int)))]) T ∧ l.take k' = trim (l.take k)
  | 0, n + 1, _, hl => ⟨0, by omega, by
      have hd : decide ((0 : Int) < ((0 : Nat) : Int)) = false := rfl
      rw [whileEv_s]
      unfold u1_without_end
      dsimp! only [hd], by simp [trim]⟩
  | k + 1, n + 1, hn, hl => by
    have hk : k < l.length := by omega
    have hd : decide ((0 : Int) < ((k + 1 : Nat) : Int)) = true := decide_eq_true (by omega)
    rw [take_s hk]
    by_cases hz : l.getD k 0 = 0
    · obtain ⟨k', a1, a2, a3⟩ := we_loop l k n (by omega) (by omega)
      refine ⟨k', a1, ?_, by rw [a3, hz, trim_0]⟩
      have hz2 := decide_eq_true hz
      rw [whileEv_s]
      unfold u1_without_end at a2 ⊢
      unfold w1_without_end at a2 ⊢
      dsimp! only [hd, sub1', Int.toNat_natCast, hz2, a2]
    · refine ⟨k + 1, hl, ?_, by rw [trim_n hz, take_s hk]⟩
      have hz2 := decide_eq_false hz
      rw [whileEv_s]
      unfold u1_without_end
      dsimp! only [hd, sub1', Int.toNat_natCast, hz2]
theorem without_end (l : List Int) (hl : l.length < 290) : e_without_end [.lst (lI l)] T = .ok (.ow (lI (trim l))) T := by
  obtain ⟨k', a1, a2, a3⟩ := we_loop (T := T) l l.length 300 (by omega) (Nat.le_refl _)
  rw [List.take_length] at a3
  have e : ((k' : Int)).toNat = k' := by omega
  unfold e_without_end t_without_end
  dsimp! only [a2, fSl_l, cut_pre, e, a3]
theorem told_loop (B : Option LV) : ∀ (l : List Int) (f : Int) (v : Option LV), ∃ v', forEv (gNm 3).ev w1_told_number.ev (lI l) [some (.sh (.int F.p)), B, some (.sh (.int f)), v] T = .ok (.nx [some (.sh (.int F.p)), B, some (.sh (.int (l.foldl (fun f d => f * F.p + d) f))), v']) T
  | [], f, v => ⟨v, rfl⟩
  | d :: l, f, v => by
    have S := sm F
    obtain ⟨v', ih⟩ := told_loop B l (f * F.p + d) (some (.sh (.int d)))
    refine ⟨v', ?_⟩
    have p2 := S.p2
    have pq := S.pq
    have q1 := S.q128
    rw [show lI (d :: l) = .int d :: lI l from rfl]
    unfold w1_told_number at ih ⊢
    dsimp! only [ih, List.foldl_cons]
theorem told_number (l : List Int) : e_told_number [.int F.p, .lst (lI l)] T = .ok (.sh (.int (und F.p l))) T := by
  obtain ⟨v', e⟩ := told_loop (F := F) (T := T) (some (.sh (.lst (lI l)))) l.reverse 0 none
  rw [fold_und] at e
  unfold e_told_number t_told_number
  dsimp! only [e]
theorem po_loop (B : Option LV) : ∀ (k n : Nat) (f : List Int) (l : Int), k < n → 0 ≤ l → l < (F.p : Int) ^ k → f.length + k ≤ 1000 →
    ∃ l', whileEv u1_poly_of.ev w1_poly_of.ev n [some (.sh (.int F.p)), B, some (.ow (lI f)), some (.sh (.int l))] T = .ok (.nx [some (.sh (.int F.p)), B, some (.ow (lI (f ++ trim (dig F.p k l)))), some (.sh (.int l'))]) T
  | k, 0, f, l, hn, _, _, _ => absurd hn (by omega)
  | k, n + 1, f, l, hn, h0, h1, hf => by
    have S := sm F
    have p2 := S.p2
    have pq := S.pq
    have q1 := S.q128
    by_cases hz : 0 < l
    · cases k with
      | zero => simp at h1; omega
      | succ k =>
        have h2 : l / F.p < (F.p : Int) ^ k := Int.ediv_lt_of_lt_mul pp (by rw [Int.pow_succ] at h1; exact h1)
        have h3 : 0 ≤ l / F.p := Int.ediv_nonneg h0 (by omega)
        obtain ⟨l', ih⟩ := po_loop B k n (f ++ [l % F.p]) (l / F.p) (by omega) h3 h2 (by simp; omega)
        refine ⟨l', ?_⟩
        have hd := decide_eq_true hz
        rw [whileEv_s]
        unfold u1_poly_of at ih ⊢
        unfold w1_poly_of at ih ⊢
        dsimp! only [hd, ih]
        have e : trim (dig F.p (k + 1) l) = l % F.p :: trim (dig F.p k (l / F.p)) := by
          show trim (l % F.p :: dig F.p k (l / F.p)) = _
          rw [trim_cons]
          split
          · rename_i e
            have e2 : l / F.p = 0 := by
              have a1 := und_dig (p := (F.p : Int)) pp h3 h2
              have a2 : und F.p (trim (dig F.p k (l / F.p))) = und F.p (dig F.p k (l / F.p)) := by
                have : ∀ m : List Int, und F.p (trim m) = und F.p m := by
                  intro m
                  induction m with
                  | nil => rfl
                  | cons a m ih =>
                    rw [trim_cons]
                    split
                    · rename_i e
                      rw [e] at ih
                      have ih : (0 : Int) = und F.p m := ih
                      split
                      · rename_i z; show (0 : Int) = a + F.p * und F.p m; rw [← ih, z]; simp
                      · show a + F.p * 0 = a + F.p * und F.p m; rw [← ih]
                    · show a + F.p * und F.p (trim m) = a + F.p * und F.p m; rw [ih]
                exact this _
              rw [e] at a2
              have a2 : (0 : Int) = und F.p (dig F.p k (l / F.p)) := a2
              rw [← a1, ← a2]
            have e3 : l % F.p ≠ 0 := by
              have := Int.emod_add_mul_ediv l F.p
              rw [e2] at this
              omega
            rw [if_neg e3, e]
          · rfl
        rw [e, List.append_assoc]; rfl
    · have hl : l = 0 := by omega
      subst hl
      refine ⟨0, ?_⟩
      have hd := decide_eq_false hz
      rw [whileEv_s, dig_zero, trim_z0, List.append_nil]
      unfold u1_poly_of
      dsimp! only [hd]
theorem poly_of (a : El F) : e_poly_of [.int F.p, .int a.1] T = .ok (.ow (lI (El.tv a))) T := by
  have S := sm F
  have tq := S.tq
  have a1 : a.1 < (F.p : Int) ^ F.t := Int.lt_of_lt_of_le a.2.2 (Int.le_of_eq qq)
  obtain ⟨l', e⟩ := po_loop (F := F) (T := T) (some (.sh (.int a.1))) F.t 300 [] a.1 (by omega) a.2.1 a1 (by simp; omega)
  rw [lI_nil] at e
  have e2 : [] ++ trim (dig F.p F.t a.1) = El.tv a := rfl
  rw [e2] at e
  unfold e_poly_of t_poly_of
  dsimp! only [e]
end
end Lw
end
section
set_option Elab.async false
set_option linter.all false
set_option maxRecDepth 100000
set_option maxHeartbeats 1000000
/-! EvH: rests and products of the package's polynomials. -/
namespace Lw
open PySem Tp Fq
section
variable {F : Fld} [h : FOk F] {T : Cs}
theorem rg_set {p : Int} {l : List Int} (h : Rg p l) (i : Nat) {v : Int} (hv : 0 ≤ v ∧ v < p) : Rg p (l.set i v) := fun d hd => by
  rcases List.mem_or_eq_of_mem_set hd with q | q
  · exact h d q
  · rw [q]; exact hv
theorem em_rg (x : Int) : 0 ≤ x % (F.p : Int) ∧ x % (F.p : Int) < F.p := ⟨Int.emod_nonneg _ (by have := pp (F := F); omega), Int.emod_lt_of_pos _ pp⟩
theorem rest_in (A1 A2 A4 : Option LV) (shift : Nat) (c : Int) (hc : 0 ≤ c ∧ c < 128) : ∀ (ms : List Int) (at_ : Nat) (found : List Int) (v7 v8 : Option LV), shift + at_ + ms.length ≤ found.length → Rg F.p found →
    ∃ (found' : List Int) (v7' v8' : Option LV), forEv (gTp [gNm 7, gNm 8]).ev w1_poly_rest.ev (enumD (at_ : Int) (lI ms)) [some (.sh (.int F.p)), A1, A2, some (.ow (lI found)), A4, some (.sh (.int (shift : Int))), some (.sh (.int c)), v7, v8] T
      = .ok (.nx [some (.sh (.int F.p)), A1, A2, some (.ow (lI found')), A4, some (.sh (.int (shift : Int))), some (.sh (.int c)), v7', v8']) T ∧ found'.length = found.length ∧ Rg F.p found' ∧
      El.ev (F := F) found' = El.ev (F := F) found - El.cast (F := F) c * ((El.X : El F) ^ (shift + at_) * El.ev (F := F) ms) ∧ (∀ j, j < shift + at_ → found'.getD j 0 = found.getD j 0) ∧
      (∀ k, ms.length = k + 1 → found'.getD (shift + at_ + k) 0 = (found.getD (shift + at_ + k) 0 - c * ms.getD k 0) % F.p)
  | [], at_, found, v7, v8, hl, hr => ⟨found, v7, v8, rfl, rfl, hr, by show _ = El.ev (F := F) found - El.cast (F := F) c * ((El.X : El F) ^ (shift + at_) * 0); grind, fun _ _ => rfl, fun k hk => by simp at hk⟩
  | m :: ms, at_, found, v7, v8, hl, hr => by
    have S := sm F
    have p2 := S.p2
    have hl' : shift + at_ < found.length := by simp only [List.length_cons] at hl; omega
    have hv := em_rg (F := F) (found.getD (shift + at_) 0 - c * m)
    obtain ⟨f', w7, w8, ih, il, ir, ie, ig, ik⟩ := rest_in A1 A2 A4 shift c hc ms (at_ + 1) (found.set (shift + at_) ((found.getD (shift + at_) 0 - c * m) % F.p)) (some (.sh (.int at_))) (some (.sh (.int m))) (by rw [List.length_set]; simp only [List.length_cons] at hl; omega) (rg_set hr _ hv)
    refine ⟨f', w7, w8, ?_, by rw [il, List.length_set], ir, ?_, fun j hj => by rw [ig j (by omega), getD_ne _ _ _ _ (by omega)], fun k hk => ?_⟩
    · rw [enum_c]
      unfold w1_poly_rest at ih ⊢
      dsimp! only [toN2, ih]
    · rw [ie, ev_set _ _ _ hl', cast_sub, cast_mod, cast_sub, cast_mul, ← Nat.add_assoc, Lean.Grind.Semiring.pow_succ]
      show _ = El.ev (F := F) found - El.cast (F := F) c * ((El.X : El F) ^ (shift + at_) * (El.cast (F := F) m + (El.X : El F) * El.ev (F := F) ms))
      grind
    · cases k with
      | zero =>
        rw [Nat.add_zero, ig _ (by omega), getD_eq _ _ _ hl']
        rfl
      | succ k =>
        simp only [List.length_cons] at hk
        have e := ik k (by omega)
        rw [getD_ne _ _ _ _ (by omega)] at e
        rw [show shift + at_ + (k + 1) = shift + (at_ + 1) + k by omega]
        exact e
theorem ev_mfull : El.ev (F := F) F.m = 0 := ev_m
theorem rest_loop (A1 : Option LV) : ∀ (n fuel : Nat) (left : List Int) (v5 v6 v7 v8 : Option LV), left.length ≤ n + F.t → n < fuel → Rg F.p left → trim left = left → left.length < 290 →
    ∃ (left' : List Int) (v5' v6' v7' v8' : Option LV), whileEv u1_poly_rest.ev w2_poly_rest.ev fuel [some (.sh (.int F.p)), A1, some (.sh (.lst (lI F.m))), some (.ow (lI left)), some (.sh (.int 1)), v5, v6, v7, v8] T
      = .ok (.nx [some (.sh (.int F.p)), A1, some (.sh (.lst (lI F.m))), some (.ow (lI left')), some (.sh (.int 1)), v5', v6', v7', v8']) T ∧ left'.length ≤ F.t ∧ Rg F.p left' ∧ trim left' = left' ∧ El.ev (F := F) left' = El.ev (F := F) left
  | n, 0, left, v5, v6, v7, v8, _, hn, _, _, _ => absurd hn (by omega)
  | n, fuel + 1, left, v5, v6, v7, v8, hl, hn, hr, ht, hz => by
    have S := sm F
    have p2 := S.p2
    have pq := S.pq
    have q1 := S.q128
    have hml := (facts F).ml
    by_cases hc : F.t < left.length
    · cases n with
      | zero => omega
      | succ n =>
        have hd : decide ((F.m.length : Int) ≤ (left.length : Int)) = true := decide_eq_true (by omega)
        have hne : left ≠ [] := fun e => by rw [e] at hc; simp at hc
        have h0 : 0 < left.length := by omega
        have hcr : 0 ≤ left.getD (left.length - 1) 0 ∧ left.getD (left.length - 1) 0 < F.p := by
          rw [getD_el (by omega : left.length - 1 < left.length)]
          exact hr _ (List.getElem_mem _)
        have ec : left.getD (left.length - 1) 0 * 1 % F.p = left.getD (left.length - 1) 0 := by rw [Int.mul_one]; exact Int.emod_eq_of_lt hcr.1 hcr.2
        have es : (left.length : Int) - (F.m.length : Int) = ((left.length - F.m.length : Nat) : Int) := by omega
        obtain ⟨f1, w7, w8, i1, l1, r1, e1, _, k1⟩ := rest_in (F := F) (T := T) A1 (some (.sh (.lst (lI F.m)))) (some (.sh (.int 1))) (left.length - F.m.length) (left.getD (left.length - 1) 0) (by omega) F.m 0 left v7 v8 (by omega) hr
        have k2 := k1 F.t hml
        have e3 : left.length - F.m.length + 0 + F.t = left.length - 1 := by omega
        have hmt : F.m.getD F.t 0 = 1 := by have := (facts F).mt; unfold at0 at this; rw [Int.toNat_natCast] at this; exact this
        rw [e3, hmt, Int.mul_one, Int.sub_self, Int.zero_emod] at k2
        have e4 : trim f1 = trim (f1.take (left.length - 1)) := by
          have a1 : f1 = f1.take (left.length - 1) ++ [0] := by
            have := take_s (l := f1) (i := left.length - 1) (by omega)
            rw [k2, show left.length - 1 + 1 = f1.length by omega, List.take_length] at this
            exact this
          have a2 := trim_0 (f1.take (left.length - 1))
          rw [← a1] at a2
          exact a2
        have l2 : (trim f1).length ≤ left.length - 1 := by
          rw [e4]
          exact Nat.le_trans (trim_len _) (by rw [List.length_take]; omega)
        obtain ⟨f2, x5, x6, x7, x8, i2, l3, r3, t3, e5⟩ := rest_loop A1 n fuel (trim f1) (some (.sh (.int ((left.length - F.m.length : Nat) : Int)))) (some (.sh (.int (left.getD (left.length - 1) 0)))) w7 w8 (by omega) (by omega) (trim_rg r1) (trim_trim _) (by omega)
        have i1' : forEv (gTp [gNm 7, gNm 8]).ev w1_poly_rest.ev (enumD 0 (lI F.m)) _ T = _ := i1
        have hw := fun (T : Cs) => without_end (T := T) f1 (by omega)
        refine ⟨f2, x5, x6, x7, x8, ?_, l3, r3, t3, ?_⟩
        · rw [whileEv_s]
          unfold u1_poly_rest w2_poly_rest at i2 ⊢
          dsimp! only [hd, es, atI_m1, ec, i1', hw, i2]
        · rw [e5, ev_trim, e1, ev_m]
          grind
    · have hd : decide ((F.m.length : Int) ≤ (left.length : Int)) = false := decide_eq_false (by omega)
      refine ⟨left, v5, v6, v7, v8, ?_, by omega, hr, ht, rfl⟩
      rw [whileEv_s]
      unfold u1_poly_rest
      dsimp! only [hd]
theorem poly_rest (hu : ∀ T, e_undone_by [.int F.p, .int 1] T = .ok (.sh (.int 1)) T) (l : List Int) (hr : Rg F.p l) (hl : l.length < 290) : e_poly_rest [.int F.p, .lst (lI l), .lst (lI F.m)] T = .ok (.ow (lI (El.tv (El.ev (F := F) l)))) T := by
  have S := sm F
  have hml := (facts F).ml
  have l0 := trim_len l
  obtain ⟨f2, x5, x6, x7, x8, i2, l3, r3, t3, e5⟩ := rest_loop (F := F) (T := T) (some (.sh (.lst (lI l)))) l.length 300 (trim l) none none none none (by omega) (by omega) (trim_rg hr) (trim_trim _) (by omega)
  have e1 : El.tv (El.ev (F := F) l) = f2 := by
    rw [← ev_trim l, ← e5]
    exact tv_of r3 t3 l3
  have hmt : F.m.getD (F.m.length - 1) 0 = 1 := by
    have := (facts F).mt; unfold at0 at this; rw [Int.toNat_natCast] at this
    rw [hml]; exact this
  have hw := fun (T : Cs) => without_end (T := T) l hl
  rw [e1]
  unfold e_poly_rest t_poly_rest
  dsimp! only [hw, atI_m1, hmt, hu, i2]
theorem pt_in (A0' A1 A2 A3 : Option LV) (hA : A0' = some (.sh (.int F.p))) (at_ : Nat) (here : Int) (hh : 0 ≤ here ∧ here < 128) : ∀ (far : List Int) (to : Nat) (found : List Int) (v7 v8 : Option LV), at_ + to + far.length ≤ found.length → Rg F.p found →
    ∃ (found' : List Int) (v7' v8' : Option LV), forEv (gTp [gNm 7, gNm 8]).ev w1_poly_times.ev (enumD (to : Int) (lI far)) [A0', A1, A2, A3, some (.ow (lI found)), some (.sh (.int at_)), some (.sh (.int here)), v7, v8] T
      = .ok (.nx [A0', A1, A2, A3, some (.ow (lI found')), some (.sh (.int at_)), some (.sh (.int here)), v7', v8']) T ∧ found'.length = found.length ∧ Rg F.p found' ∧ El.ev (F := F) found' = El.ev (F := F) found + El.cast (F := F) here * ((El.X : El F) ^ (at_ + to) * El.ev (F := F) far)
  | [], to, found, v7, v8, hl, hr => ⟨found, v7, v8, rfl, rfl, hr, by show _ = El.ev (F := F) found + El.cast (F := F) here * ((El.X : El F) ^ (at_ + to) * 0); grind⟩
  | th :: far, to, found, v7, v8, hl, hr => by
    have S := sm F
    have p2 := S.p2
    have hl' : at_ + to < found.length := by simp only [List.length_cons] at hl; omega
    have hv := em_rg (F := F) (found.getD (at_ + to) 0 + here * th)
    obtain ⟨f', w7, w8, ih, il, ir, ie⟩ := pt_in A0' A1 A2 A3 hA at_ here hh far (to + 1) (found.set (at_ + to) ((found.getD (at_ + to) 0 + here * th) % F.p)) (some (.sh (.int to))) (some (.sh (.int th))) (by rw [List.length_set]; simp only [List.length_cons] at hl; omega) (rg_set hr _ hv)
    refine ⟨f', w7, w8, ?_, by rw [il, List.length_set], ir, ?_⟩
    · rw [enum_c]
      subst hA
      unfold w1_poly_times at ih ⊢
      dsimp! only [toN2, ih]
    · rw [ie, ev_set _ _ _ hl', cast_sub, cast_mod]
      rw [show El.cast (F := F) (found.getD (at_ + to) 0 + here * th) = El.cast (found.getD (at_ + to) 0) + El.cast (here * th) from cast_add _ _, cast_mul, ← Nat.add_assoc, Lean.Grind.Semiring.pow_succ]
      show _ = El.ev (F := F) found + El.cast (F := F) here * ((El.X : El F) ^ (at_ + to) * (El.cast (F := F) th + (El.X : El F) * El.ev (F := F) far))
      grind
theorem pt_out (A1 A3 : Option LV) (far : List Int) : ∀ (near : List Int), Rg 128 near → ∀ (at_ : Nat) (found : List Int) (v5 v6 v7 v8 : Option LV), at_ + near.length + far.length ≤ found.length + 1 → Rg F.p found →
    ∃ (found' : List Int) (v5' v6' v7' v8' : Option LV), forEv (gTp [gNm 5, gNm 6]).ev w2_poly_times.ev (enumD (at_ : Int) (lI near)) [some (.sh (.int F.p)), A1, some (.sh (.lst (lI far))), A3, some (.ow (lI found)), v5, v6, v7, v8] T
      = .ok (.nx [some (.sh (.int F.p)), A1, some (.sh (.lst (lI far))), A3, some (.ow (lI found')), v5', v6', v7', v8']) T ∧ found'.length = found.length ∧ Rg F.p found' ∧ El.ev (F := F) found' = El.ev (F := F) found + (El.X : El F) ^ at_ * (El.ev (F := F) near * El.ev (F := F) far)
  | [], _, at_, found, v5, v6, v7, v8, hl, hr => ⟨found, v5, v6, v7, v8, rfl, rfl, hr, by show _ = El.ev (F := F) found + (El.X : El F) ^ at_ * (0 * El.ev (F := F) far); grind⟩
  | he :: near, hn, at_, found, v5, v6, v7, v8, hl, hr => by
    simp only [List.length_cons] at hl
    obtain ⟨f1, w7, w8, i1, l1, r1, e1⟩ := pt_in (F := F) (T := T) (some (.sh (.int F.p))) A1 (some (.sh (.lst (lI far)))) A3 rfl at_ he hn.head far 0 found v7 v8 (by omega) hr
    obtain ⟨f2, x5, x6, x7, x8, i2, l2, r2, e2⟩ := pt_out A1 A3 far near hn.tail (at_ + 1) f1 (some (.sh (.int at_))) (some (.sh (.int he))) w7 w8 (by omega) r1
    refine ⟨f2, x5, x6, x7, x8, ?_, by omega, r2, ?_⟩
    · rw [enum_c]
      have i1' : forEv (gTp [gNm 7, gNm 8]).ev w1_poly_times.ev (enumD 0 (lI far)) _ T = _ := i1
      unfold w2_poly_times at i2 ⊢
      dsimp! only [i1', i2]
    · rw [e2, e1, Lean.Grind.Semiring.pow_succ, Nat.add_zero]
      show _ = El.ev (F := F) found + (El.X : El F) ^ at_ * ((El.cast (F := F) he + (El.X : El F) * El.ev (F := F) near) * El.ev (F := F) far)
      grind
theorem poly_times (hu : ∀ T, e_undone_by [.int F.p, .int 1] T = .ok (.sh (.int 1)) T) (a b : List Int) (ha : Rg F.p a) (na : a ≠ []) (nb : b ≠ []) (la : a.length ≤ 128) (lb : b.length ≤ 128) :
    e_poly_times [.int F.p, .lst (lI a), .lst (lI b), .lst (lI F.m)] T = .ok (.ow (lI (El.tv (El.ev (F := F) a * El.ev (F := F) b)))) T := by
  have S := sm F
  have p2 := S.p2
  have pq := S.pq
  have q1 := S.q128
  have a0 := List.length_pos_iff.mpr na
  have b0 := List.length_pos_iff.mpr nb
  have ra : Rg 128 a := fun d hd => by have := ha d hd; omega
  have rz : Rg F.p (List.replicate (a.length + b.length - 1) 0) := fun d hd => by rw [List.eq_of_mem_replicate hd]; omega
  obtain ⟨f1, w5, w6, w7, w8, i1, l1, r1, e1⟩ := pt_out (F := F) (T := T) (some (.sh (.lst (lI a)))) (some (.sh (.lst (lI F.m)))) b a ra 0 (List.replicate (a.length + b.length - 1) 0) none none none none (by rw [List.length_replicate]; omega) rz
  have l1' : f1.length = a.length + b.length - 1 := by rw [l1, List.length_replicate]
  have hm : (if (a.length : Int) + (b.length : Int) - 1 > 0 then (a.length : Int) + (b.length : Int) - 1 else 0) = ((a.length + b.length - 1 : Nat) : Int) := by
    rw [if_pos (by omega)]; omega
  have i1' : forEv (gTp [gNm 5, gNm 6]).ev w2_poly_times.ev (enumD 0 (lI a)) _ T = _ := i1
  have e2 : El.ev (F := F) f1 = El.ev (F := F) a * El.ev (F := F) b := by
    rw [e1]
    have e5 : El.ev (F := F) (List.replicate (a.length + b.length - 1) 0) = 0 := ev_zs _
    rw [e5]; grind
  have hp := fun (T : Cs) => poly_rest (F := F) (T := T) hu f1 r1 (by omega)
  rw [e2] at hp
  unfold e_poly_times t_poly_times
  dsimp! only [hm, rep_i, Int.toNat_natCast, i1', hp]
end
end Lw
end
section
set_option Elab.async false
set_option linter.all false
set_option maxRecDepth 100000
set_option maxHeartbeats 1000000
/-! EvI: a Field made. -/
namespace Tp
open PySem
section
variable {ρ : Env} {T : Cs}
def fldK (i c : Nat) (f : Str) (d : D) (ρ : Env) (T1 : Cs) (o : Option (Option LV)) : Ev Fl := match o with
    | some (some (.oo c' xs)) => if c' = c ∧ (cdT c).2[xs.length]? = some f ∧ f ∉ (cdT c).2.take xs.length then .ok (.nx (ρ.set i (some (.oo c (xs ++ [d]))))) T1 else .no
    | _ => .no
theorem sFldO_e (i c : Nat) (f : Str) (a : CE) : (sFldO i c f a).ev ρ T = (evD a.ev ρ T).bind fun d T1 => fldK i c f d ρ T1 (ρ[i]?) := rfl
theorem fldK_1 (d : D) : fldK 0 0 "own_prime" d ρ T (some (some (.oo 0 []))) = .ok (.nx (ρ.set 0 (some (.oo 0 [d])))) T := by kernel_rfl
theorem fldK_2 (a d : D) : fldK 0 0 "own_turns" d ρ T (some (some (.oo 0 [a]))) = .ok (.nx (ρ.set 0 (some (.oo 0 [a, d])))) T := by kernel_rfl
theorem fldK_3 (a b d : D) : fldK 0 0 "own_size" d ρ T (some (some (.oo 0 [a, b]))) = .ok (.nx (ρ.set 0 (some (.oo 0 [a, b, d])))) T := by kernel_rfl
theorem fldK_4 (a b c d : D) : fldK 0 0 "own_modulus" d ρ T (some (some (.oo 0 [a, b, c]))) = .ok (.nx (ρ.set 0 (some (.oo 0 [a, b, c, d])))) T := by kernel_rfl
theorem fldK_5 (a b c e d : D) : fldK 0 0 "own_powers" d ρ T (some (some (.oo 0 [a, b, c, e]))) = .ok (.nx (ρ.set 0 (some (.oo 0 [a, b, c, e, d])))) T := by kernel_rfl
theorem fldK_6 (a b c e g d : D) : fldK 0 0 "own_logs" d ρ T (some (some (.oo 0 [a, b, c, e, g]))) = .ok (.nx (ρ.set 0 (some (.oo 0 [a, b, c, e, g, d])))) T := by kernel_rfl
def ofK (c : Nat) (f : Str) (T : Cs) (o : Option (Option LV)) : Ev R := match o with
    | some (some (.oo c' xs)) => Ev.opt (if c' = c then ((fIdx f ((cdT c).2.take xs.length)).bind fun j => xs[j]?).map fun d => .v (.sh d) else none) T
    | _ => .no
theorem cFldO_e (i c : Nat) (f : Str) : (cFldO i c f).ev ρ T = ofK c f T (ρ[i]?) := rfl
theorem ofK_w (a b c e g : D) : ofK 0 "own_powers" T (some (some (.oo 0 [a, b, c, e, g]))) = .ok (.v (.sh g)) T := by kernel_rfl
theorem ofK_q (a b c e g : D) : ofK 0 "own_size" T (some (some (.oo 0 [a, b, c, e, g]))) = .ok (.v (.sh c)) T := by kernel_rfl
def iniK (c : Nat) (f : Fl) (T1 : Cs) : Ev (List D) := match f with
  | .nx ρ => (match ρ[0]? with
    | some (some (LV.oo c' xs)) => if c' = c ∧ xs.length = (cdT c).2.length then .ok xs T1 else .no
    | _ => .no)
  | _ => .no
theorem initEv_2 (b : Env → Cs → Ev Fl) (x y : D) : initEv 0 3 3 b [x, y] T = (b [some (.oo 0 []), some (.sh x), some (.sh y)] T).bind (iniK 0) := rfl
theorem iniK_6 (a b c d e f : D) (r : Env) : iniK 0 (.nx (some (.oo 0 [a, b, c, d, e, f]) :: r)) T = .ok [a, b, c, d, e, f] T := by kernel_rfl
theorem fNe_l1 (a : List Int) : fNe [.v (.sh (.lst (lI a))), .v (.ow [.int 1])] = some (.v (.sh (.bl (!decide (a = [1]))))) := fNe_lo a [1]
end
end Tp
namespace Fq
section
variable (F : Fld)
/-- the powers from x on come to 1 -/
def Fld.pwk : Nat → Int → Int → Bool
  | 0, _, _ => false
  | n + 1, x, g => decide (x = 1) || Fld.pwk n (F.mulc x g) g
def Fld.srok : Nat → Int → Bool
  | 0, _ => false
  | k + 1, n => (decide (1 ≤ n) && (decide (n < F.q) && F.pwk 290 n n)) && if (1 :: F.pwc 290 n n).length < F.q - 1 then Fld.srok k (n + 1) else true
theorem pwc_len (g : Int) : ∀ (n : Nat) (x : Int), (F.pwc n x g).length ≤ n
  | 0, _ => Nat.le_refl 0
  | n + 1, x => by
    show (if x = 1 then [] else x :: F.pwc n (F.mulc x g) g).length ≤ n + 1
    split
    · simp
    · simp only [List.length_cons]; have := pwc_len g n (F.mulc x g); omega
end
end Fq
namespace Lw
open PySem Tp Fq
section
variable {F : Fld} [h : FOk F] {T : Cs}
theorem pb_loop (hu : ∀ T, e_undone_by [.int F.p, .int 1] T = .ok (.sh (.int 1)) T) (A2 : Option LV) (g : El F) (hg : g ≠ 0) : ∀ (n m : Nat) (x : El F) (found : List Int), x ≠ 0 → F.pwk n x.1 g.1 = true → n ≤ m → found.length + n ≤ 1000 →
    ∃ here', whileEv u1_powers_by.ev w1_powers_by.ev m [some (.sh (.int F.p)), some (.sh (.lst (lI F.m))), A2, some (.sh (.lst (lI (El.tv g)))), some (.ow (lI found)), some (.sh (.lst (lI (El.tv x))))] T
      = .ok (.nx [some (.sh (.int F.p)), some (.sh (.lst (lI F.m))), A2, some (.sh (.lst (lI (El.tv g)))), some (.ow (lI (found ++ F.pwc n x.1 g.1))), some (.sh (.lst (lI here')))]) T
  | 0, m, x, found, hx, hk, _, _ => by cases hk
  | n + 1, 0, x, found, hx, hk, hm, hf => absurd hm (by omega)
  | n + 1, m + 1, x, found, hx, hk, hm, hf => by
    have S := sm F
    have tq := S.tq
    by_cases e1 : x = 1
    · have hd : decide (El.tv x = [1]) = true := decide_eq_true (by rw [e1]; exact tv_one)
      refine ⟨El.tv x, ?_⟩
      have e2 : F.pwc (n + 1) x.1 g.1 = [] := by
        show (if x.1 = 1 then [] else _) = []
        rw [if_pos (by rw [e1, one_1])]
      rw [whileEv_s, e2, List.append_nil]
      unfold u1_powers_by
      dsimp! only [fNe_l1, hd]
    · have hd : decide (El.tv x = [1]) = false := decide_eq_false fun e => e1 (tv_inj (e.trans tv_one.symm))
      have e3 : x.1 ≠ 1 := fun e => e1 (El.ext (e.trans one_1.symm))
      have e2 : F.pwc (n + 1) x.1 g.1 = x.1 :: F.pwc n (x * g).1 g.1 := by
        show (if x.1 = 1 then [] else x.1 :: F.pwc n (F.mulc x.1 g.1) g.1) = _
        rw [if_neg e3]; rfl
      have hk' : F.pwk n (x * g).1 g.1 = true := by
        have : (decide (x.1 = 1) || F.pwk n (F.mulc x.1 g.1) g.1) = true := hk
        rw [decide_eq_false e3, Bool.false_or] at this
        exact this
      obtain ⟨here', ih⟩ := pb_loop hu A2 g hg n m (x * g) (found ++ [x.1]) (mul_ne hx hg) hk' (by omega) (by simp; omega)
      have hp := fun (T : Cs) => poly_times (F := F) (T := T) hu (El.tv x) (El.tv g) (tv_rg x) (tv_ne hx) (tv_ne hg) (by have := tv_len x; omega) (by have := tv_len g; omega)
      rw [ev_tv, ev_tv] at hp
      refine ⟨here', ?_⟩
      rw [List.append_assoc] at ih
      rw [whileEv_s, e2]
      unfold u1_powers_by w1_powers_by at ih ⊢
      dsimp! only [fNe_l1, hd, told_number, und_tv, hp, ih]
theorem powers_by (hu : ∀ T, e_undone_by [.int F.p, .int 1] T = .ok (.sh (.int 1)) T) (g : El F) (hg : g ≠ 0) (hk : F.pwk 290 g.1 g.1 = true) : e_powers_by [.int F.p, .lst (lI F.m), .int g.1] T = .ok (.ow (lI (1 :: F.pwc 290 g.1 g.1))) T := by
  obtain ⟨here', e⟩ := pb_loop (F := F) (T := T) hu (some (.sh (.int g.1))) g hg 290 300 g [1] hg hk (by omega) (by simp)
  have e' : whileEv u1_powers_by.ev w1_powers_by.ev 300 [some (.sh (.int F.p)), some (.sh (.lst (lI F.m))), some (.sh (.int g.1)), some (.sh (.lst (lI (El.tv g)))), some (.ow [.int 1]), some (.sh (.lst (lI (El.tv g))))] T = _ := e
  unfold e_powers_by t_powers_by
  dsimp! only [poly_of, e']
theorem ap_loop (hu : ∀ T, e_undone_by [.int F.p, .int 1] T = .ok (.sh (.int 1)) T) : ∀ (k m : Nat) (n : Int), F.srok (k + 1) n = true → k < m →
    ∃ n' : Int, whileEv u1_all_powers.ev w1_all_powers.ev m [some (.sh (.int F.p)), some (.sh (.lst (lI F.m))), some (.sh (.int F.q)), some (.sh (.int n)), some (.sh (.lst (lI (1 :: F.pwc 290 n n))))] T
      = .ok (.nx [some (.sh (.int F.p)), some (.sh (.lst (lI F.m))), some (.sh (.int F.q)), some (.sh (.int n')), some (.sh (.lst (lI (F.srch (k + 1) n))))]) T
  | k, 0, n, _, hm => absurd hm (by omega)
  | k, m + 1, n, hs, hm => by
    have hq := q3 (F := F)
    have hs' : ((decide (1 ≤ n) && (decide (n < F.q) && F.pwk 290 n n)) && if (1 :: F.pwc 290 n n).length < F.q - 1 then F.srok k (n + 1) else true) = true := hs
    obtain ⟨_, h2⟩ := Fq.ba hs'
    by_cases hc : (1 :: F.pwc 290 n n).length < F.q - 1
    · rw [if_pos hc] at h2
      cases k with
      | zero => cases h2
      | succ k =>
        have h2' : ((decide (1 ≤ n + 1) && (decide (n + 1 < F.q) && F.pwk 290 (n + 1) (n + 1))) && if (1 :: F.pwc 290 (n + 1) (n + 1)).length < F.q - 1 then F.srok k (n + 1 + 1) else true) = true := h2
        obtain ⟨a1, _⟩ := Fq.ba h2'
        obtain ⟨a1, a2⟩ := Fq.ba a1
        obtain ⟨a2, a3⟩ := Fq.ba a2
        have a1 := of_decide_eq_true a1
        have a2 := of_decide_eq_true a2
        obtain ⟨n', ih⟩ := ap_loop hu k m (n + 1) h2 (by omega)
        refine ⟨n', ?_⟩
        have hd : decide ((((1 :: F.pwc 290 n n).length : Nat) : Int) < (F.q : Int) - 1) = true := decide_eq_true (by omega)
        have hp := powers_by (F := F) (T := T) hu ⟨n + 1, by omega, a2⟩ (el_ne.mpr (by show n + 1 ≠ 0; omega)) a3
        have hp' : e_powers_by [.int F.p, .lst (lI F.m), .int (n + 1)] T = .ok (.ow (lI (1 :: F.pwc 290 (n + 1) (n + 1)))) T := hp
        have e2 : F.srch (k + 1 + 1) n = F.srch (k + 1) (n + 1) := by
          show (if (1 :: F.pwc 290 n n).length < F.q - 1 then F.srch (k + 1) (n + 1) else _) = _
          rw [if_pos hc]
        rw [whileEv_s, e2]
        generalize 1 :: F.pwc 290 n n = L at hd ⊢
        unfold u1_all_powers w1_all_powers at ih ⊢
        dsimp! only [hd, hp', ih]
    · refine ⟨n, ?_⟩
      have hd : decide ((((1 :: F.pwc 290 n n).length : Nat) : Int) < (F.q : Int) - 1) = false := decide_eq_false (by omega)
      have e2 : F.srch (k + 1) n = 1 :: F.pwc 290 n n := by
        show (if (1 :: F.pwc 290 n n).length < F.q - 1 then _ else _) = _
        rw [if_neg hc]
      rw [whileEv_s, e2]
      generalize 1 :: F.pwc 290 n n = L at hd ⊢
      unfold u1_all_powers
      dsimp! only [hd]
theorem all_powers (hu : ∀ T, e_undone_by [.int F.p, .int 1] T = .ok (.sh (.int 1)) T) (hs : F.srok 290 F.p = true) : e_all_powers [.int F.p, .lst (lI F.m), .int F.q] T = .ok (.sh (.lst (lI (F.srch 290 F.p)))) T := by
  have hs' : ((decide (1 ≤ (F.p : Int)) && (decide ((F.p : Int) < F.q) && F.pwk 290 F.p F.p)) && if (1 :: F.pwc 290 F.p F.p).length < F.q - 1 then F.srok 289 (F.p + 1) else true) = true := hs
  obtain ⟨a1, _⟩ := Fq.ba hs'
  obtain ⟨a1, a2⟩ := Fq.ba a1
  obtain ⟨_, a3⟩ := Fq.ba a2
  have hp := powers_by (F := F) (T := T) hu El.X (el_ne.mpr (by show (F.p : Int) ≠ 0; have := pp (F := F); omega)) a3
  have hp' : e_powers_by [.int F.p, .lst (lI F.m), .int F.p] T = .ok (.ow (lI (1 :: F.pwc 290 F.p F.p))) T := hp
  obtain ⟨n', e⟩ := ap_loop (F := F) (T := T) hu 289 300 F.p hs (by omega)
  unfold e_all_powers t_all_powers
  dsimp! only [hp', e]
theorem sized_loop (B : Option LV) : ∀ (n : Nat) (k f : Int) (v : Option LV), ∃ v', forEv (gNm 3).ev w1_sized.ev (rangeD k 1 n) [some (.sh (.int F.p)), B, some (.sh (.int f)), v] T = .ok (.nx [some (.sh (.int F.p)), B, some (.sh (.int (f * F.p ^ n))), v']) T
  | 0, k, f, v => ⟨v, by simp only [rangeD, Int.pow_zero, Int.mul_one]; rfl⟩
  | n + 1, k, f, v => by
    have S := sm F
    obtain ⟨v', ih⟩ := sized_loop B n (k + 1) (f * F.p) (some (.sh (.int k)))
    refine ⟨v', ?_⟩
    have p2 := S.p2
    have pq := S.pq
    have q1 := S.q128
    rw [show rangeD k 1 (n + 1) = .int k :: rangeD (k + 1) 1 n from rfl]
    unfold w1_sized at ih ⊢
    dsimp! only [ih]
    rw [Int.pow_succ, Int.mul_assoc, Int.mul_comm ((F.p : Int))]
theorem sized : e_sized [.int F.p, .int F.t] T = .ok (.sh (.int F.q)) T := by
  have S := sm F
  have t2 := S.t2
  have tq := S.tq
  obtain ⟨v', e⟩ := sized_loop (F := F) (T := T) (some (.sh (.int F.t))) F.t 0 1 none
  rw [← qq, Int.one_mul] at e
  unfold e_sized t_sized
  dsimp! only [Int.toNat_natCast, e]
def fA (F : Fld) : List D := [.int F.p, .int F.t, .int F.q, .lst (lI F.m), .lst (lI F.pw), .lst (lI F.lg)]
theorem want_at_most (s : PySem.Str) (n : Int) (hn : n ≤ 128) : e_want_at_most [.str s, .int 128, .int n] T = .ok (.sh .non) T := by
  have hd : decide ((128 : Int) < n) = false := decide_eq_false (by omega)
  unfold e_want_at_most t_want_at_most
  dsimp! only [hd]
theorem mk_gen (hu : ∀ T, e_undone_by [.int F.p, .int 1] T = .ok (.sh (.int 1)) T) (hs : F.srok 290 F.p = true) (hw : F.srch 290 F.p = F.pw) (hp : ∀ T, e_want_prime [.int F.p] T = .ok (.sh .non) T)
    (hr : ∀ T, e_is_right [.int F.p, .lst (lI F.m)] T = .ok (.sh (.bl true)) T) (hl : ∀ T, e_logs_by [.lst (lI F.pw), .int F.q] T = .ok (.ow (lI F.lg)) T) : e_Field___init__ [.int F.p, .lst (lI F.m)] T = .ok (fA F) T := by
  have S := sm F
  have q1 := S.q128
  have hap := fun (T : Cs) => all_powers (F := F) (T := T) hu hs
  rw [hw] at hap
  have hwm := fun (T : Cs) => want_at_most (T := T) "elements" F.q q1
  unfold e_Field___init__ t_Field___init__
  dsimp! only [initEv_2, hp, hr, mlen, sized, hwm, sFldO_e, fldK_1, fldK_2, fldK_3, fldK_4, fldK_5, fldK_6, hap, cFldO_e, ofK_w, ofK_q, hl, iniK_6, fA]
end
end Lw
end
section
set_option Elab.async false
set_option linter.all false
set_option maxRecDepth 100000
set_option maxHeartbeats 0
namespace Lw
open PySem Tp Fq
theorem mk0 (T : Cs) : e_Field___init__ [.int f0.p, .lst (lI f0.m)] T = .ok (fA f0) T :=
  haveI : FOk f0 := ⟨f0_ok⟩
  mk_gen (fun T => by kernel_rfl) (by decide +kernel) (by decide +kernel) (fun T => by kernel_rfl) (fun T => by kernel_rfl) (fun T => by kernel_rfl)
theorem mk1 (T : Cs) : e_Field___init__ [.int f1.p, .lst (lI f1.m)] T = .ok (fA f1) T :=
  haveI : FOk f1 := ⟨f1_ok⟩
  mk_gen (fun T => by kernel_rfl) (by decide +kernel) (by decide +kernel) (fun T => by kernel_rfl) (fun T => by kernel_rfl) (fun T => by kernel_rfl)
theorem mk2 (T : Cs) : e_Field___init__ [.int f2.p, .lst (lI f2.m)] T = .ok (fA f2) T :=
  haveI : FOk f2 := ⟨f2_ok⟩
  mk_gen (fun T => by kernel_rfl) (by decide +kernel) (by decide +kernel) (fun T => by kernel_rfl) (fun T => by kernel_rfl) (fun T => by kernel_rfl)
theorem mk3 (T : Cs) : e_Field___init__ [.int f3.p, .lst (lI f3.m)] T = .ok (fA f3) T :=
  haveI : FOk f3 := ⟨f3_ok⟩
  mk_gen (fun T => by kernel_rfl) (by decide +kernel) (by decide +kernel) (fun T => by kernel_rfl) (fun T => by kernel_rfl) (fun T => by kernel_rfl)
theorem mk4 (T : Cs) : e_Field___init__ [.int f4.p, .lst (lI f4.m)] T = .ok (fA f4) T :=
  haveI : FOk f4 := ⟨f4_ok⟩
  mk_gen (fun T => by kernel_rfl) (by decide +kernel) (by decide +kernel) (fun T => by kernel_rfl) (fun T => by kernel_rfl) (fun T => by kernel_rfl)
theorem mk5 (T : Cs) : e_Field___init__ [.int f5.p, .lst (lI f5.m)] T = .ok (fA f5) T :=
  haveI : FOk f5 := ⟨f5_ok⟩
  mk_gen (fun T => by kernel_rfl) (by decide +kernel) (by decide +kernel) (fun T => by kernel_rfl) (fun T => by kernel_rfl) (fun T => by kernel_rfl)
theorem mk6 (T : Cs) : e_Field___init__ [.int f6.p, .lst (lI f6.m)] T = .ok (fA f6) T :=
  haveI : FOk f6 := ⟨f6_ok⟩
  mk_gen (fun T => by kernel_rfl) (by decide +kernel) (by decide +kernel) (fun T => by kernel_rfl) (fun T => by kernel_rfl) (fun T => by kernel_rfl)
theorem mk7 (T : Cs) : e_Field___init__ [.int f7.p, .lst (lI f7.m)] T = .ok (fA f7) T :=
  haveI : FOk f7 := ⟨f7_ok⟩
  mk_gen (fun T => by kernel_rfl) (by decide +kernel) (by decide +kernel) (fun T => by kernel_rfl) (fun T => by kernel_rfl) (fun T => by kernel_rfl)
theorem mk8 (T : Cs) : e_Field___init__ [.int f8.p, .lst (lI f8.m)] T = .ok (fA f8) T :=
  haveI : FOk f8 := ⟨f8_ok⟩
  mk_gen (fun T => by kernel_rfl) (by decide +kernel) (by decide +kernel) (fun T => by kernel_rfl) (fun T => by kernel_rfl) (fun T => by kernel_rfl)
theorem mk9 (T : Cs) : e_Field___init__ [.int f9.p, .lst (lI f9.m)] T = .ok (fA f9) T :=
  haveI : FOk f9 := ⟨f9_ok⟩
  mk_gen (fun T => by kernel_rfl) (by decide +kernel) (by decide +kernel) (fun T => by kernel_rfl) (fun T => by kernel_rfl) (fun T => by kernel_rfl)
theorem mk10 (T : Cs) : e_Field___init__ [.int f10.p, .lst (lI f10.m)] T = .ok (fA f10) T :=
  haveI : FOk f10 := ⟨f10_ok⟩
  mk_gen (fun T => by kernel_rfl) (by decide +kernel) (by decide +kernel) (fun T => by kernel_rfl) (fun T => by kernel_rfl) (fun T => by kernel_rfl)
theorem mk11 (T : Cs) : e_Field___init__ [.int f11.p, .lst (lI f11.m)] T = .ok (fA f11) T :=
  haveI : FOk f11 := ⟨f11_ok⟩
  mk_gen (fun T => by kernel_rfl) (by decide +kernel) (by decide +kernel) (fun T => by kernel_rfl) (fun T => by kernel_rfl) (fun T => by kernel_rfl)
theorem mk12 (T : Cs) : e_Field___init__ [.int f12.p, .lst (lI f12.m)] T = .ok (fA f12) T :=
  haveI : FOk f12 := ⟨f12_ok⟩
  mk_gen (fun T => by kernel_rfl) (by decide +kernel) (by decide +kernel) (fun T => by kernel_rfl) (fun T => by kernel_rfl) (fun T => by kernel_rfl)
theorem mk13 (T : Cs) : e_Field___init__ [.int f13.p, .lst (lI f13.m)] T = .ok (fA f13) T :=
  haveI : FOk f13 := ⟨f13_ok⟩
  mk_gen (fun T => by kernel_rfl) (by decide +kernel) (by decide +kernel) (fun T => by kernel_rfl) (fun T => by kernel_rfl) (fun T => by kernel_rfl)
theorem mk_field {F : Fld} (h : F ∈ flds) (T : Cs) : e_Field___init__ [.int F.p, .lst (lI F.m)] T = .ok (fA F) T := by
  simp only [flds, List.mem_cons, List.not_mem_nil, or_false] at h
  rcases h with rfl | rfl | rfl | rfl | rfl | rfl | rfl | rfl | rfl | rfl | rfl | rfl | rfl | rfl
  · exact mk0 T
  · exact mk1 T
  · exact mk2 T
  · exact mk3 T
  · exact mk4 T
  · exact mk5 T
  · exact mk6 T
  · exact mk7 T
  · exact mk8 T
  · exact mk9 T
  · exact mk10 T
  · exact mk11 T
  · exact mk12 T
  · exact mk13 T
end Lw
end
section
set_option Elab.async false
set_option linter.all false
set_option maxRecDepth 100000
set_option maxHeartbeats 1000000
/-! EvTI: lists of lists of ints, compared. -/
namespace Tp
open PySem
section
variable {ρ : Env} {T : Cs}
def tI (ls : List (List Int)) : List D := ls.map fun l => .lst (lI l)
theorem tI_py : ∀ ls : List (List Int), toPys (tI ls) = some (ls.map fun l => .list (l.map .int))
  | [] => by simp only [tI, List.map_nil, toPys]
  | l :: ls => by
    have ih := tI_py ls
    unfold tI at ih ⊢
    simp only [List.map_cons, toPys, toPy, toPys_int, ih, Option.map_some]
theorem tI_lay : ∀ ls : List (List Int), PyData.canLayAll0 (ls.map fun l => .list (l.map .int)) = true
  | [] => by simp only [List.map_nil, PyData.canLayAll0]
  | l :: ls => by simp only [List.map_cons, PyData.canLayAll0, PyData.canLay0, canLay_int, tI_lay ls]; rfl
theorem tI_dep : ∀ ls : List (List Int), PyData.depthAll (ls.map fun l => .list (l.map .int)) ≤ 1
  | [] => by simp only [List.map_nil, PyData.depthAll]; omega
  | l :: ls => by
    have := tI_dep ls
    simp only [List.map_cons, PyData.depthAll, PyData.depth, depth_int]; omega
theorem tI_shaped (ls : List (List Int)) : SeqAt.shaped (.list (ls.map fun l => .list (l.map .int))) = true := by
  have h1 := tI_lay ls
  have h2 := tI_dep ls
  have h3 : PyData.canLay0 (.list (ls.map fun l => .list (l.map .int))) = true := by simp only [PyData.canLay0, h1]
  have h4 : PyData.depth (.list (ls.map fun l => .list (l.map .int))) ≤ 64 := by simp only [PyData.depth]; omega
  unfold SeqAt.shaped
  rw [h3, decide_eq_true h4]; rfl
theorem tI_eqv : ∀ as bs : List (List Int), PyData.eqvAll (as.map fun l => .list (l.map .int)) (bs.map fun l => .list (l.map .int)) = decide (as = bs)
  | [], [] => by simp only [List.map_nil, PyData.eqvAll, decide_true]
  | [], _ :: _ => by simp only [List.map_nil, List.map_cons, PyData.eqvAll]; rfl
  | _ :: _, [] => by simp only [List.map_nil, List.map_cons, PyData.eqvAll]; rfl
  | x :: a, y :: b => by
    simp only [List.map_cons, PyData.eqvAll, PyData.eqv, eqv_int, tI_eqv a b]
    by_cases h1 : x = y
    · by_cases h2 : a = b
      · simp [h1, h2]
      · simp [h1, h2]
    · simp [h1]
inductive IsTI : R → List (List Int) → Prop where
  | b (l : List (List Int)) : IsTI (.bw (tI l)) l
  | o (l : List (List Int)) : IsTI (.v (.ow (tI l))) l
  | l (l : List (List Int)) : IsTI (.v (.sh (.lst (tI l)))) l
theorem isTI_py {r : R} {l : List (List Int)} (h : IsTI r l) : rPy r = some (.list (l.map fun l => .list (l.map .int))) := by
  cases h
  · show (toPys (tI l)).map _ = _; rw [tI_py]; rfl
  · show (toPys (tI l)).map _ = _; rw [tI_py]; rfl
  · show toPy (.lst (tI l)) = _; simp only [toPy, tI_py]; rfl
theorem eqR_TI {r s : R} {a b : List (List Int)} (h : IsTI r a) (k : IsTI s b) : eqR r s = some (decide (a = b)) := by
  have e : eqR r s = (match rPy r, rPy s with
    | some p, some q => if SeqAt.shaped p && SeqAt.shaped q then some (PyData.eqv p q) else none
    | _, _ => none) := by cases h <;> cases k <;> rfl
  rw [e, isTI_py h, isTI_py k]
  show (if (SeqAt.shaped (.list (a.map fun l => .list (l.map .int))) && SeqAt.shaped (.list (b.map fun l => .list (l.map .int)))) = true then some (PyData.eqv (.list (a.map fun l => .list (l.map .int))) (.list (b.map fun l => .list (l.map .int)))) else none) = _
  rw [tI_shaped, tI_shaped]
  show some (PyData.eqv (.list (a.map fun l => .list (l.map .int))) (.list (b.map fun l => .list (l.map .int)))) = _
  simp only [PyData.eqv, tI_eqv]
theorem fNe_TI {r s : R} {a b : List (List Int)} (h : IsTI r a) (k : IsTI s b) : fNe [r, s] = some (.v (.sh (.bl (!decide (a = b))))) := by
  show (eqR _ _).map _ = _
  rw [eqR_TI h k]; rfl
theorem fEq_TI {r s : R} {a b : List (List Int)} (h : IsTI r a) (k : IsTI s b) : fEq [r, s] = some (.v (.sh (.bl (decide (a = b))))) := by
  show (eqR _ _).map _ = _
  rw [eqR_TI h k]; rfl
end
end Tp
end
section
set_option Elab.async false
set_option linter.all false
set_option maxRecDepth 100000
set_option maxHeartbeats 1000000
/-! EvBc: lists of cells, and cells looked at as data meanwhile: the rewriting. -/
namespace Tp
open PySem
mutual
theorem ncD_mono {m n : Nat} (h : m ≤ n) : ∀ (d : D), ncD m d = true → ncD n d = true
  | .cell k, e => by simp only [ncD, decide_eq_true_eq] at e ⊢; omega
  | .lst xs, e => by simp only [ncD] at e ⊢; exact ncDs_mono h xs e
  | .fz xs, e => by simp only [ncD] at e ⊢; exact ncDs_mono h xs e
  | .tup xs, e => by simp only [ncD] at e ⊢; exact ncDs_mono h xs e
  | .dct xs, e => by simp only [ncD] at e ⊢; exact ncK_mono h xs e
  | .obj _ xs, e => by simp only [ncD] at e ⊢; exact ncDs_mono h xs e
  | .non, _ => rfl
  | .bl _, _ => rfl
  | .int _, _ => rfl
  | .str _, _ => rfl
theorem ncDs_mono {m n : Nat} (h : m ≤ n) : ∀ (ds : List D), ncDs m ds = true → ncDs n ds = true
  | [], _ => rfl
  | x :: xs, e => by
    simp only [ncDs, Bool.and_eq_true] at e ⊢
    exact ⟨ncD_mono h x e.1, ncDs_mono h xs e.2⟩
theorem ncK_mono {m n : Nat} (h : m ≤ n) : ∀ (ds : List (L2.Key × D)), ncK m ds = true → ncK n ds = true
  | [], _ => rfl
  | x :: xs, e => by
    simp only [ncK, Bool.and_eq_true] at e ⊢
    exact ⟨ncD_mono h x.2 e.1, ncK_mono h xs e.2⟩
end
theorem ncL_mono {m n : Nat} (h : m ≤ n) : ∀ (o : Option LV), ncL m o = true → ncL n o = true
  | none, _ => rfl
  | some lv, e => by
    cases lv with
    | sh d => exact ncD_mono h d e
    | ow xs => exact ncDs_mono h xs e
    | _ => cases e
theorem flat_nc {n : Nat} {d : D} (h : flatD d = true) : ncD n d = true := by
  cases d <;> first | rfl | cases h
theorem flats_nc {n : Nat} : ∀ {ds : List D}, ds.all flatD = true → ncDs n ds = true
  | [], _ => rfl
  | x :: xs, e => by
    simp only [List.all_cons, Bool.and_eq_true] at e
    simp only [ncDs, Bool.and_eq_true]
    exact ⟨flat_nc e.1, flats_nc e.2⟩
theorem flatCs_nc {n : Nat} {T : Cs} (h : flatCs T = true) : T.all (ncDs n) = true := by
  rw [List.all_eq_true]
  intro ds hd
  exact flats_nc (List.all_eq_true.mp h ds hd)
theorem flat_ints : ∀ l : List Int, (lI l).all flatD = true
  | [] => rfl
  | _ :: l => by
    show (true && (lI l).all flatD) = true
    rw [flat_ints l]; rfl
theorem nc_ints (n : Nat) (l : List Int) : ncDs n (lI l) = true := flats_nc (flat_ints l)
theorem nc_tI (n : Nat) : ∀ ls : List (List Int), ncDs n (tI ls) = true
  | [] => rfl
  | l :: ls => by
    show (ncDs n (lI l) && ncDs n (tI ls)) = true
    rw [nc_ints, nc_tI n ls]; rfl
section
variable {ρ : Env} {T : Cs}
def borCG {α : Type} (okb : α → Bool) (ev : Env → Cs → Ev α) (b : Bool) (n0 : Nat) (C : Cs) (ρ : Env) (T : Cs) : Ev α := if b then borCK okb n0 C (ev ρ T) else .no
def borCQ {α : Type} (okb : α → Bool) (ev : Env → Cs → Ev α) (i : Nat) (ρ : Env) (T : Cs) : Option (Option LV) → Ev α
  | some (some (.ow cs)) => borCG okb ev (okC cs i ρ T) (T.length - cs.length) (T.drop (T.length - cs.length)) (ρ.set i (some (.sh (.lst ((T.drop (T.length - cs.length)).map .lst))))) (T.take (T.length - cs.length))
  | some (some (.sh (.tup cs))) => borCG okb ev (okC cs i ρ T) (T.length - cs.length) (T.drop (T.length - cs.length)) (ρ.set i (some (.sh (.tup ((T.drop (T.length - cs.length)).map .lst))))) (T.take (T.length - cs.length))
  | _ => .no
theorem evBorC_q {α : Type} (okb : α → Bool) (ev : Env → Cs → Ev α) (i : Nat) : evBorC i okb ev ρ T = borCQ okb ev i ρ T (ρ[i]?) := by
  unfold evBorC borC
  cases ρ[i]? with
  | none => rfl
  | some o => cases o with
    | none => rfl
    | some lv => cases lv with
      | ow cs =>
        unfold borCQ borCG
        by_cases hok : okC cs i ρ T = true
        · simp [hok]
        · simp [hok]
      | sh d => cases d with
        | tup cs =>
          unfold borCQ borCG
          by_cases hok : okC cs i ρ T = true
          · simp [hok]
          · simp [hok]
        | _ => rfl
      | _ => rfl
theorem cBorC_e (i : Nat) (a : CE) : (cBorC i a).ev ρ T = borCQ okBor a.ev i ρ T (ρ[i]?) := evBorC_q _ _ i
theorem tBorC_e (i : Nat) (a : CT) : (tBorC i a).ev ρ T = borCQ (fun _ => true) a.ev i ρ T (ρ[i]?) := evBorC_q _ _ i
theorem borCG_t {α : Type} (okb : α → Bool) (ev : Env → Cs → Ev α) (n0 : Nat) (C : Cs) : borCG okb ev true n0 C ρ T = borCK okb n0 C (ev ρ T) := rfl
def setCK (m : Nat) (ρ : Env) (d : D) (T : Cs) : Ev Fl := match T[m]? with
  | some xs => if xs.length < lim then .ok (.nx ρ) (T.set m (xs ++ [d])) else .no
  | none => .no
def appEK (a : CE) (ρ : Env) : R → Cs → Ev Fl := fun r T1 => match r with
    | .v (.ow xs) => (evD a.ev ρ T1).bind fun _ T2 => if xs.length < lim then .ok (.nx ρ) T2 else .no
    | .v (.sh (.cell m)) => (evD a.ev ρ T1).bind fun d T2 => setCK m ρ d T2
    | _ => .no
theorem sAppE_e (o a : CE) : (sAppE o a).ev ρ T = (o.ev ρ T).bind (appEK a ρ) := rfl
theorem appEK_c (a : CE) (m : Nat) : appEK a ρ (.v (.sh (.cell m))) T = (evD a.ev ρ T).bind fun d T2 => setCK m ρ d T2 := rfl
theorem appEK_o (a : CE) (xs : List D) : appEK a ρ (.v (.ow xs)) T = (evD a.ev ρ T).bind fun _ T2 => if xs.length < lim then .ok (.nx ρ) T2 else .no := rfl
end
end Tp
namespace Lw
open PySem Tp
section
variable {a b : Int} {R C : Cs}
theorem pt_app (X : Cs) : pt a b R ++ X = pt a b (R ++ X) := rfl
theorem pt_ln : (pt a b R).length = R.length + 1 := rfl
theorem pt_cut : (pt a b (R ++ C)).length - C.length = R.length + 1 := by
  rw [pt_ln, List.length_append]; omega
theorem pt_take : (pt a b (R ++ C)).take (R.length + 1) = pt a b R := by
  show _ :: (R ++ C).take R.length = _
  rw [List.take_left]; rfl
theorem pt_drop : (pt a b (R ++ C)).drop (R.length + 1) = C := by
  show (R ++ C).drop R.length = _
  rw [List.drop_left]
theorem borCQ_o {α : Type} (okb : α → Bool) (ev : Tp.Env → Cs → Ev α) (i : Nat) (ρ : Tp.Env) {cs : List D} (hl : cs.length = C.length) : borCQ okb ev i ρ (pt a b (R ++ C)) (some (some (.ow cs))) = borCG okb ev (okC cs i ρ (pt a b (R ++ C))) (R.length + 1) C (ρ.set i (some (.sh (.lst (C.map .lst))))) (pt a b R) := by
  show borCG okb ev _ _ _ _ _ = _
  rw [hl, pt_cut, pt_take, pt_drop]
theorem borCQ_t {α : Type} (okb : α → Bool) (ev : Tp.Env → Cs → Ev α) (i : Nat) (ρ : Tp.Env) {cs : List D} (hl : cs.length = C.length) : borCQ okb ev i ρ (pt a b (R ++ C)) (some (some (.sh (.tup cs)))) = borCG okb ev (okC cs i ρ (pt a b (R ++ C))) (R.length + 1) C (ρ.set i (some (.sh (.tup (C.map .lst))))) (pt a b R) := by
  show borCG okb ev _ _ _ _ _ = _
  rw [hl, pt_cut, pt_take, pt_drop]
theorem okC_pt {cs : List D} {i : Nat} {ρ : Tp.Env} (hl : cs.length = C.length) (hc : isCells (R.length + 1) cs = true) (hρ : ∀ o, o ∈ ρ.set i none → ncL 1 o = true) (hR : flatCs R = true) (hC : ∀ ds, ds ∈ C → ncDs 1 ds = true) : okC cs i ρ (pt a b (R ++ C)) = true := by
  unfold okC
  rw [hl, pt_cut, hc, decide_eq_true (by rw [pt_ln, List.length_append]; omega : C.length ≤ (pt a b (R ++ C)).length)]
  rw [List.all_eq_true.mpr fun o ho => ncL_mono (by omega) o (hρ o ho)]
  show (true && (true && (true && ((ncDs _ [.int a, .int b]) && (R ++ C).all _)))) = true
  rw [List.all_append, flatCs_nc hR, List.all_eq_true.mpr fun ds hd => ncDs_mono (by omega) ds (hC ds hd)]
  rfl
theorem borCK_ok {α : Type} {okb : α → Bool} {r : α} (h : okb r = true) (hR : flatCs R = true) : borCK okb (R.length + 1) C (.ok r (pt a b R)) = .ok r (pt a b (R ++ C)) := by
  have e : (pt a b R).take (R.length + 1) = pt a b R := by
    show _ :: R.take R.length = _
    rw [List.take_length]; rfl
  show (if okb r && flatCs ((pt a b R).take (R.length + 1)) then Ev.ok r ((pt a b R).take (R.length + 1) ++ C) else .no) = _
  rw [e, h]
  have e2 : flatCs (pt a b R) = true := by
    show (true && flatCs R) = true
    rw [hR]; rfl
  rw [e2]; rfl
theorem setCK_0 {ρ : Tp.Env} {d : D} {x : List D} {L : Cs} (hx : x.length < 1000000) : setCK (R.length + 1) ρ d (pt a b (R ++ x :: L)) = .ok (.nx ρ) (pt a b (R ++ (x ++ [d]) :: L)) := by
  unfold setCK
  have e : (pt a b (R ++ x :: L))[R.length + 1]? = some x := by
    show (R ++ x :: L)[R.length]? = _
    rw [List.getElem?_append_right (Nat.le_refl _), Nat.sub_self]; rfl
  have e2 : (pt a b (R ++ x :: L)).set (R.length + 1) (x ++ [d]) = pt a b (R ++ (x ++ [d]) :: L) := by
    show _ :: (R ++ x :: L).set R.length _ = _
    rw [List.set_append_right _ _ (Nat.le_refl _), Nat.sub_self]; rfl
  rw [e]
  show (if x.length < 1000000 then _ else _) = _
  rw [if_pos hx, e2]
theorem setCK_1 {ρ : Tp.Env} {d : D} {x y : List D} {L : Cs} (hy : y.length < 1000000) : setCK (R.length + 1 + 1) ρ d (pt a b (R ++ x :: y :: L)) = .ok (.nx ρ) (pt a b (R ++ x :: (y ++ [d]) :: L)) := by
  have e := setCK_0 (R := R ++ [x]) (a := a) (b := b) (ρ := ρ) (d := d) (L := L) hy
  rw [List.length_append, List.append_assoc, List.append_assoc] at e
  exact e
end
end Lw
end
section
set_option Elab.async false
set_option linter.all false
set_option maxRecDepth 100000
set_option maxHeartbeats 4000000
namespace Tp
open PySem
section
variable {ρ : Env} {T : Cs}
def reprK (c : Nat) (ev : FEv) (d : D) (T1 : Cs) : Ev R := match d with
  | .obj c1 xs => if c1 = c then (match ev [.obj c xs] T1 with
    | .ok (.sh (.str m)) T3 => .ok (.v (.sh (.str m))) T3
    | _ => .no) else .no
  | _ => .no
/-- an int's text -/
def iStr (i : Int) : Str := toString i
def mtK (c : Nat) (ev : FEv) (d : D) (ds : List D) (T1 : Cs) : Ev R := match d with
  | .obj c' xs => if c' = c then (ev (.obj c xs :: ds) T1).bind fun lv T3 => Ev.opt (toR lv) T3 else .no
  | _ => .no
theorem cMeth0_e (c : Nat) (m : PySem.Str) (s : DefSig) (ev : FEv) (o : CE) {sr : List Src} (B : BindOk s 1 [] sr) : (cMeth0 c m s ev o B).ev ρ T = (evD o.ev ρ T).bind fun d T1 => mtK c ev d [] T1 := by
  show (evD o.ev ρ T).bind _ = _
  congr 1
theorem mtK_o {c : Nat} {ev : FEv} {xs : List D} {lv : LV} {r : R} {T3 : Cs} (h : ev [.obj c xs] T = .ok lv T3) (h2 : toR lv = some r) : mtK c ev (.obj c xs) [] T = .ok r T3 := by
  show (if c = c then (ev [.obj c xs] T).bind _ else _) = _
  rw [if_pos rfl, h]
  show Ev.opt (toR lv) T3 = _
  rw [h2]; rfl
theorem proK_o {c : Nat} {ev : FEv} {xs : List D} {lv : LV} {r : R} {T3 : Cs} (h : ev [.obj c xs] T = .ok lv T3) (h2 : toR lv = some r) : proK c ev T (.obj c xs) = .ok r T3 := by
  show (if c = c then (match ev [.obj c xs] T with
    | .ok lv T3 => Ev.opt (toR lv) T3
    | _ => .no) else _) = _
  rw [if_pos rfl, h]
  show Ev.opt (toR lv) T3 = _
  rw [h2]; rfl
theorem cMake_e (c : Nat) (s : DefSig) (ev : IEv) (a : CD) (b : CKw) (srcs : List Src) {nn : Nat} {kk : List PySem.Str} {sr : List Src} (B : BindOk s nn kk sr) {ρ : Env} {T : Cs} : (cMake c s ev a b srcs B).ev ρ T = (a.ev ρ T).bind fun ds T1 => (b.ev ρ T1).bind fun es T2 => (ev (sel .non (ds ++ es) s.dfl srcs) T2).bind fun xs T3 => .ok (.v (.sh (.obj c xs))) T3 := rfl
theorem cMakeK_e (c : Nat) (s : DefSig) (ev : IEv) (b : CKw) (srcs : List Src) {nn : Nat} {kk : List PySem.Str} {sr : List Src} (B : BindOk s nn kk sr) : (cMakeK c s ev b srcs B).ev ρ T = (b.ev ρ T).bind fun es T2 => (ev (sel .non ([] ++ es) s.dfl srcs) T2).bind fun xs T3 => .ok (.v (.sh (.obj c xs))) T3 := rfl
theorem cObjRepr_e (c : Nat) (s : DefSig) (ev : FEv) (a : CE) {sr : List Src} (B : BindOk s 1 [] sr) : (cObjRepr c s ev a B).ev ρ T = (evD a.ev ρ T).bind (reprK c ev) := rfl
theorem reprK_o {c : Nat} {ev : FEv} {xs : List D} {m : Str} {T3 : Cs} (h : ev [.obj c xs] T = .ok (.sh (.str m)) T3) : reprK c ev (.obj c xs) T = .ok (.v (.sh (.str m))) T3 := by
  show (if c = c then _ else _) = _
  rw [if_pos rfl, h]
theorem cJoin_e (as : List CE) : (cJoin as).ev ρ T = joinEv ((as.map fun a => a.ev).map evD) Str.empty ρ T := rfl
theorem join_all (ρ : Env) (T : Cs) : ∀ (ps : List ((Env → Cs → Ev D) × Str)) (acc : Str), (∀ p, p ∈ ps → p.1 ρ T = .ok (.str p.2) T) → acc.length + (ps.map fun p => p.2.length).sum ≤ 1000000 → joinEv (ps.map fun p => p.1) acc ρ T = .ok (.v (.sh (.str (ps.foldl (fun a p => a ++ p.2) acc)))) T
  | [], acc, _, _ => rfl
  | p :: ps, acc, hp, hl => by
    rw [List.map_cons, List.sum_cons] at hl
    have ih := join_all ρ T ps (acc ++ p.2) (fun q hq => hp q (List.mem_cons_of_mem _ hq)) (by rw [Str.length_append]; omega)
    show ((p.1 ρ T).bind _) = _
    rw [hp p List.mem_cons_self]
    show (if acc.length + p.2.length ≤ 1000000 then joinEv (ps.map fun p => p.1) (acc ++ p.2) ρ T else .no) = _
    rw [if_pos (by omega), ih]; rfl
theorem join_5 {ρ : Env} {T : Cs} {a1 a2 a3 a4 a5 : CE} {y1 y2 y3 y4 y5 : Str} (h1 : evD a1.ev ρ T = .ok (.str y1) T) (h2 : evD a2.ev ρ T = .ok (.str y2) T) (h3 : evD a3.ev ρ T = .ok (.str y3) T) (h4 : evD a4.ev ρ T = .ok (.str y4) T) (h5 : evD a5.ev ρ T = .ok (.str y5) T)
    (hl : Str.empty.length + (y1.length + (y2.length + (y3.length + (y4.length + (y5.length + 0))))) ≤ 1000000) : (cJoin [a1, a2, a3, a4, a5]).ev ρ T = .ok (.v (.sh (.str (Str.empty ++ y1 ++ y2 ++ y3 ++ y4 ++ y5)))) T :=
  join_all ρ T [(evD a1.ev, y1), (evD a2.ev, y2), (evD a3.ev, y3), (evD a4.ev, y4), (evD a5.ev, y5)] Str.empty (List.forall_mem_cons.mpr ⟨h1, List.forall_mem_cons.mpr ⟨h2, List.forall_mem_cons.mpr ⟨h3, List.forall_mem_cons.mpr ⟨h4, List.forall_mem_cons.mpr ⟨h5, fun _ hp => absurd hp List.not_mem_nil⟩⟩⟩⟩⟩) hl
theorem join_7 {ρ : Env} {T : Cs} {a1 a2 a3 a4 a5 a6 a7 : CE} {y1 y2 y3 y4 y5 y6 y7 : Str} (h1 : evD a1.ev ρ T = .ok (.str y1) T) (h2 : evD a2.ev ρ T = .ok (.str y2) T) (h3 : evD a3.ev ρ T = .ok (.str y3) T) (h4 : evD a4.ev ρ T = .ok (.str y4) T) (h5 : evD a5.ev ρ T = .ok (.str y5) T) (h6 : evD a6.ev ρ T = .ok (.str y6) T) (h7 : evD a7.ev ρ T = .ok (.str y7) T)
    (hl : Str.empty.length + (y1.length + (y2.length + (y3.length + (y4.length + (y5.length + (y6.length + (y7.length + 0))))))) ≤ 1000000) : (cJoin [a1, a2, a3, a4, a5, a6, a7]).ev ρ T = .ok (.v (.sh (.str (Str.empty ++ y1 ++ y2 ++ y3 ++ y4 ++ y5 ++ y6 ++ y7)))) T :=
  join_all ρ T [(evD a1.ev, y1), (evD a2.ev, y2), (evD a3.ev, y3), (evD a4.ev, y4), (evD a5.ev, y5), (evD a6.ev, y6), (evD a7.ev, y7)] Str.empty (List.forall_mem_cons.mpr ⟨h1, List.forall_mem_cons.mpr ⟨h2, List.forall_mem_cons.mpr ⟨h3, List.forall_mem_cons.mpr ⟨h4, List.forall_mem_cons.mpr ⟨h5, List.forall_mem_cons.mpr ⟨h6, List.forall_mem_cons.mpr ⟨h7, fun _ hp => absurd hp List.not_mem_nil⟩⟩⟩⟩⟩⟩⟩) hl
theorem cStr_d (s : Str) {ρ : Env} {T : Cs} : evD (cStr s).ev ρ T = .ok (.str s) T := rfl
theorem fmt_s {a : CE} {y : Str} (h : evD a.ev ρ T = .ok (.str y) T) (hl : y.length ≤ 1000000) : evD (cFmt a).ev ρ T = .ok (.str y) T := by
  show (((evD a.ev ρ T).bind _).bind _) = _
  rw [h]
  show ((Ev.opt ((if y.length ≤ 1000000 then some (D.str y) else none).map _) T).bind _) = _
  rw [if_pos hl]; rfl
theorem fmt_i {a : CE} {i : Int} (h : evD a.ev ρ T = .ok (.int i) T) (h0 : -1000000000000000000 < i) (h1 : i < 1000000000000000000) : evD (cFmt a).ev ρ T = .ok (.str (iStr i)) T := by
  show (((evD a.ev ρ T).bind _).bind _) = _
  rw [h]
  show ((Ev.opt ((if -1000000000000000000 < i ∧ i < 1000000000000000000 then some (D.str (toString i)) else none).map _) T).bind _) = _
  rw [if_pos ⟨h0, h1⟩]; rfl
theorem int_len {i : Int} (h0 : -1000000000000000000 < i) (h1 : i < 1000000000000000000) : (iStr i).length ≤ 19 := by
  have := (shB_ok (.int i) 19 (by simp only [shB]; rw [if_pos ⟨h0, h1⟩])).1
  simp only [PyData.shown] at this
  exact this
theorem repr_i {i : Int} (h0 : -1000000000000000000 < i) (h1 : i < 1000000000000000000) : bRepr.f [.v (.sh (.int i))] = some (.v (.sh (.str (iStr i)))) := by
  show (if okShow (.int i) = true then some _ else none) = _
  rw [if_pos (by
    unfold okShow
    rw [show shB (.int i) = some 19 by simp only [shB]; rw [if_pos ⟨h0, h1⟩]]
    show (decide (19 ≤ 1000000) && decide (PyData.depth (.int i) ≤ 60)) = true
    simp [PyData.depth])]
  simp only [PyData.shown]; rfl
theorem rs_len {l : List Int} (h : ∀ x, x ∈ l → -1000000000000000000 < x ∧ x < 1000000000000000000) : (rs l).length ≤ 21 * l.length + 2 := by
  have := (shB_ok (.list (l.map .int)) (21 * l.length + 2) (by simp only [shB, shBs_int l h]; rfl)).1
  exact this
theorem add_s {s t : Str} (h : s.length + t.length ≤ 1000000) : fAdd [.v (.sh (.str s)), .v (.sh (.str t))] = some (.v (.sh (.str (s ++ t)))) := if_pos h
theorem cObjEqD_e (neg : Bool) (c : Nat) (s : DefSig) (ev : FEv) (a b : CE) {sr : List Src} (B : BindOk s 2 [] sr) : (cObjEqD neg c s ev a b B).ev ρ T = (evD a.ev ρ T).bind fun d T1 => (evD b.ev ρ T1).bind fun e T2 => objDK neg c ev T2 d e := rfl
theorem tObjEqD_e (neg : Bool) (c : Nat) (s : DefSig) (ev : FEv) (a b : CE) {sr : List Src} (B : BindOk s 2 [] sr) : (tObjEqD neg c s ev a b B).ev ρ T = ((evD a.ev ρ T).bind fun d T1 => (evD b.ev ρ T1).bind fun e T2 => objDK neg c ev T2 d e).bind fun x T1 => Ev.opt (rBl x) T1 := rfl
theorem objDK_o {neg : Bool} {c : Nat} {ev : FEv} {xs : List D} {e : D} {r : Bool} {T3 : Cs} (h : ev [.obj c xs, e] T = .ok (.sh (.bl r)) T3) (h2 : (tyOf e).isSome = true) : objDK neg c ev T (.obj c xs) e = .ok (.v (.sh (.bl (if neg then !r else r)))) T3 := by
  show (if c = c ∧ (tyOf e).isSome = true then _ else _) = _
  rw [if_pos ⟨rfl, h2⟩, h]
end
end Tp
namespace Lw
open PySem Tp Fq
section
variable {F : Fld} [h : FOk2 F] {T : Cs}
theorem t7 : F.t ≤ 7 := by
  have S := sm F
  have h1 : 2 ^ F.t ≤ F.q := Nat.pow_le_pow_left (facts F).p2 F.t
  have h2 := S.q128
  by_cases z : F.t ≤ 7
  · exact z
  · have : 2 ^ 8 ≤ 2 ^ F.t := Nat.pow_le_pow_right (by omega) (by omega)
    omega
theorem m_bd : ∀ x, x ∈ F.m → -1000000000000000000 < x ∧ x < 1000000000000000000 := fun x hx => by
  obtain ⟨i, hi, rfl⟩ := List.getElem_of_mem hx
  have ml := mlen (F := F)
  have := m_rg (F := F) i (by omega)
  rw [List.getD_eq_getElem?_getD, List.getElem?_eq_getElem hi, Option.getD_some] at this
  omega
theorem len_F : ("Field(" : PySem.Str).length = 6 := by kernel_rfl
theorem len_B : ("Book(" : PySem.Str).length = 5 := by kernel_rfl
theorem len_c : (", " : PySem.Str).length = 2 := by kernel_rfl
theorem len_e : (")" : PySem.Str).length = 1 := by kernel_rfl
theorem len_0 : Str.empty.length = 0 := by kernel_rfl
/-- a field, shown -/
def fStr (F : Fld) : PySem.Str := Str.empty ++ ("Field(" : PySem.Str) ++ iStr (F.p : Int) ++ (", " : PySem.Str) ++ rs F.m ++ (")" : PySem.Str)
theorem frepr : e_Field___repr__ [fO F] T = .ok (.sh (.str (fStr F))) T := by
  have pq := (sm F).pq
  have q1 := (sm F).q128
  have ml := mlen (F := F)
  have ht := t7 (F := F)
  have bd := m_bd (F := F)
  have r1 := repr_l bd (by omega)
  have l1 := rs_len bd
  have l2 := int_len (i := (F.p : Int)) (by omega) (by omega)
  have e1 : evD (cFmt (cFld [0] "own_prime" (cVar 0))).ev [some (.sh (fO F))] T = .ok (.str (iStr (F.p : Int))) T := fmt_i (by dsimp! only [fO_p]) (by omega) (by omega)
  have e2 : evD (cFmt (cBlt bRepr (aCons (cFld [0] "own_modulus" (cVar 0)) aNil))).ev [some (.sh (fO F))] T = .ok (.str (rs F.m)) T := fmt_s (by dsimp! only [fO_m, r1]) (by omega)
  have j := join_5 (cStr_d ("Field(" : PySem.Str)) e1 (cStr_d (", " : PySem.Str)) e2 (cStr_d (")" : PySem.Str)) (by rw [len_F, len_c, len_e, len_0]; omega)
  unfold e_Field___repr__ t_Field___repr__
  dsimp! only [j]
  rfl
theorem fStr_len : (fStr F).length ≤ 300 := by
  have ml := mlen (F := F)
  have ht := t7 (F := F)
  have pq := (sm F).pq
  have q1 := (sm F).q128
  have l1 := rs_len (m_bd (F := F))
  have l2 := int_len (i := (F.p : Int)) (by omega) (by omega)
  unfold fStr
  rw [Str.length_append, Str.length_append, Str.length_append, Str.length_append, Str.length_append, len_F, len_c, len_e, len_0]
  omega
theorem fStr_ok : PyData.strOk (fStr F) = true := strOk_app (strOk_app (strOk_app (strOk_app (strOk_app (strOk_of "") (strOk_of "Field(")) (strOk_of _)) (strOk_of ", ")) (rs_ok _)) (strOk_of ")")
end
end Lw
end
section
set_option Elab.async false
set_option linter.all false
set_option maxRecDepth 100000
set_option maxHeartbeats 0
namespace Lw
open PySem Tp Fq
theorem lst_t (l : List D) : bList.f [.v (.sh (.tup l))] = some (.v (.ow l)) := rfl
section
variable {F : Fld} [h : FOk F] {T : Cs}
theorem mkT_gen (hu : ∀ T, e_undone_by [.int F.p, .int 1] T = .ok (.sh (.int 1)) T) (hs : F.srok 290 F.p = true) (hw : F.srch 290 F.p = F.pw) (hp : ∀ T, e_want_prime [.int F.p] T = .ok (.sh .non) T)
    (hr : ∀ T, e_is_right [.int F.p, .tup (lI F.m)] T = .ok (.sh (.bl true)) T) (hl : ∀ T, e_logs_by [.lst (lI F.pw), .int F.q] T = .ok (.ow (lI F.lg)) T) : e_Field___init__ [.int F.p, .tup (lI F.m)] T = .ok (fA F) T := by
  have S := sm F
  have q1 := S.q128
  have hap := fun (T : Cs) => all_powers (F := F) (T := T) hu hs
  rw [hw] at hap
  have hwm := fun (T : Cs) => want_at_most (T := T) "elements" F.q q1
  unfold e_Field___init__ t_Field___init__
  dsimp! only [lst_t, initEv_2, hp, hr, mlen, sized, hwm, sFldO_e, fldK_1, fldK_2, fldK_3, fldK_4, fldK_5, fldK_6, hap, cFldO_e, ofK_w, ofK_q, hl, iniK_6, fA]
end
theorem mkt0 (T : Cs) : e_Field___init__ [.int f0.p, .tup (lI f0.m)] T = .ok (fA f0) T :=
  haveI : FOk f0 := ⟨f0_ok⟩
  mkT_gen (fun T => by kernel_rfl) (by decide +kernel) (by decide +kernel) (fun T => by kernel_rfl) (fun T => by kernel_rfl) (fun T => by kernel_rfl)
theorem mkt1 (T : Cs) : e_Field___init__ [.int f1.p, .tup (lI f1.m)] T = .ok (fA f1) T :=
  haveI : FOk f1 := ⟨f1_ok⟩
  mkT_gen (fun T => by kernel_rfl) (by decide +kernel) (by decide +kernel) (fun T => by kernel_rfl) (fun T => by kernel_rfl) (fun T => by kernel_rfl)
theorem mkt2 (T : Cs) : e_Field___init__ [.int f2.p, .tup (lI f2.m)] T = .ok (fA f2) T :=
  haveI : FOk f2 := ⟨f2_ok⟩
  mkT_gen (fun T => by kernel_rfl) (by decide +kernel) (by decide +kernel) (fun T => by kernel_rfl) (fun T => by kernel_rfl) (fun T => by kernel_rfl)
theorem mkt3 (T : Cs) : e_Field___init__ [.int f3.p, .tup (lI f3.m)] T = .ok (fA f3) T :=
  haveI : FOk f3 := ⟨f3_ok⟩
  mkT_gen (fun T => by kernel_rfl) (by decide +kernel) (by decide +kernel) (fun T => by kernel_rfl) (fun T => by kernel_rfl) (fun T => by kernel_rfl)
theorem mkt4 (T : Cs) : e_Field___init__ [.int f4.p, .tup (lI f4.m)] T = .ok (fA f4) T :=
  haveI : FOk f4 := ⟨f4_ok⟩
  mkT_gen (fun T => by kernel_rfl) (by decide +kernel) (by decide +kernel) (fun T => by kernel_rfl) (fun T => by kernel_rfl) (fun T => by kernel_rfl)
theorem mkt5 (T : Cs) : e_Field___init__ [.int f5.p, .tup (lI f5.m)] T = .ok (fA f5) T :=
  haveI : FOk f5 := ⟨f5_ok⟩
  mkT_gen (fun T => by kernel_rfl) (by decide +kernel) (by decide +kernel) (fun T => by kernel_rfl) (fun T => by kernel_rfl) (fun T => by kernel_rfl)
theorem mkt6 (T : Cs) : e_Field___init__ [.int f6.p, .tup (lI f6.m)] T = .ok (fA f6) T :=
  haveI : FOk f6 := ⟨f6_ok⟩
  mkT_gen (fun T => by kernel_rfl) (by decide +kernel) (by decide +kernel) (fun T => by kernel_rfl) (fun T => by kernel_rfl) (fun T => by kernel_rfl)
theorem mkt7 (T : Cs) : e_Field___init__ [.int f7.p, .tup (lI f7.m)] T = .ok (fA f7) T :=
  haveI : FOk f7 := ⟨f7_ok⟩
  mkT_gen (fun T => by kernel_rfl) (by decide +kernel) (by decide +kernel) (fun T => by kernel_rfl) (fun T => by kernel_rfl) (fun T => by kernel_rfl)
theorem mkt8 (T : Cs) : e_Field___init__ [.int f8.p, .tup (lI f8.m)] T = .ok (fA f8) T :=
  haveI : FOk f8 := ⟨f8_ok⟩
  mkT_gen (fun T => by kernel_rfl) (by decide +kernel) (by decide +kernel) (fun T => by kernel_rfl) (fun T => by kernel_rfl) (fun T => by kernel_rfl)
theorem mkt9 (T : Cs) : e_Field___init__ [.int f9.p, .tup (lI f9.m)] T = .ok (fA f9) T :=
  haveI : FOk f9 := ⟨f9_ok⟩
  mkT_gen (fun T => by kernel_rfl) (by decide +kernel) (by decide +kernel) (fun T => by kernel_rfl) (fun T => by kernel_rfl) (fun T => by kernel_rfl)
theorem mkt10 (T : Cs) : e_Field___init__ [.int f10.p, .tup (lI f10.m)] T = .ok (fA f10) T :=
  haveI : FOk f10 := ⟨f10_ok⟩
  mkT_gen (fun T => by kernel_rfl) (by decide +kernel) (by decide +kernel) (fun T => by kernel_rfl) (fun T => by kernel_rfl) (fun T => by kernel_rfl)
theorem mkt11 (T : Cs) : e_Field___init__ [.int f11.p, .tup (lI f11.m)] T = .ok (fA f11) T :=
  haveI : FOk f11 := ⟨f11_ok⟩
  mkT_gen (fun T => by kernel_rfl) (by decide +kernel) (by decide +kernel) (fun T => by kernel_rfl) (fun T => by kernel_rfl) (fun T => by kernel_rfl)
theorem mkt12 (T : Cs) : e_Field___init__ [.int f12.p, .tup (lI f12.m)] T = .ok (fA f12) T :=
  haveI : FOk f12 := ⟨f12_ok⟩
  mkT_gen (fun T => by kernel_rfl) (by decide +kernel) (by decide +kernel) (fun T => by kernel_rfl) (fun T => by kernel_rfl) (fun T => by kernel_rfl)
theorem mkt13 (T : Cs) : e_Field___init__ [.int f13.p, .tup (lI f13.m)] T = .ok (fA f13) T :=
  haveI : FOk f13 := ⟨f13_ok⟩
  mkT_gen (fun T => by kernel_rfl) (by decide +kernel) (by decide +kernel) (fun T => by kernel_rfl) (fun T => by kernel_rfl) (fun T => by kernel_rfl)
theorem mkT_field {F : Fld} (h : F ∈ flds) (T : Cs) : e_Field___init__ [.int F.p, .tup (lI F.m)] T = .ok (fA F) T := by
  simp only [flds, List.mem_cons, List.not_mem_nil, or_false] at h
  rcases h with rfl | rfl | rfl | rfl | rfl | rfl | rfl | rfl | rfl | rfl | rfl | rfl | rfl | rfl
  · exact mkt0 T
  · exact mkt1 T
  · exact mkt2 T
  · exact mkt3 T
  · exact mkt4 T
  · exact mkt5 T
  · exact mkt6 T
  · exact mkt7 T
  · exact mkt8 T
  · exact mkt9 T
  · exact mkt10 T
  · exact mkt11 T
  · exact mkt12 T
  · exact mkt13 T
end Lw
end
section
set_option Elab.async false
set_option linter.all false
set_option maxRecDepth 100000
set_option maxHeartbeats 4000000
namespace Tp
open PySem
theorem repr_d {d : D} (h : iD d = true) (hz : szD d ≤ 999990) (hd : dpD d ≤ 50) : ∃ s : Str, PyData.strOk s = true ∧ bRepr.f [.v (.sh d)] = some (.v (.sh (.str s))) := by
  obtain ⟨p, q⟩ := sh_D d h
  obtain ⟨n, n1, n2⟩ := q.sz
  have hs : okShow p = true := by
    have := q.dp
    unfold okShow
    rw [n1]
    show (decide (n ≤ 1000000) && decide (PyData.depth p ≤ 60)) = true
    rw [decide_eq_true (by omega : n ≤ 1000000), decide_eq_true (by omega : PyData.depth p ≤ 60)]; rfl
  refine ⟨PyData.shown p, q.ok, ?_⟩
  show (toPy d).bind _ = _
  rw [q.py]
  show (if okShow p = true then _ else none) = _
  rw [if_pos hs]
theorem py_il (a : Int) (b : List Int) : rPy (.v (.sh (.tup [.int a, .lst (lI b)]))) = some (.tuple [.int a, .list (b.map .int)]) := by
  show toPy _ = _
  simp only [toPy, toPys, toPys_int]; rfl
theorem shaped_il (a : Int) (b : List Int) : SeqAt.shaped (.tuple [.int a, .list (b.map .int)]) = true := by
  unfold SeqAt.shaped
  simp only [PyData.canLay0, PyData.canLayAll0, canLay_int, PyData.depth, PyData.depthAll, depth_int]; rfl
theorem fEq_il (a c : Int) (b d : List Int) : fEq [.v (.sh (.tup [.int a, .lst (lI b)])), .v (.sh (.tup [.int c, .lst (lI d)]))] = some (.v (.sh (.bl (decide (a = c) && decide (b = d))))) := by
  show (eqR _ _).map _ = _
  have e : eqR (.v (.sh (.tup [.int a, .lst (lI b)]))) (.v (.sh (.tup [.int c, .lst (lI d)]))) = some (decide (a = c) && decide (b = d)) := by
    show (match rPy (.v (.sh (.tup [.int a, .lst (lI b)]))), rPy (.v (.sh (.tup [.int c, .lst (lI d)]))) with
      | some p, some q => if SeqAt.shaped p && SeqAt.shaped q then some (PyData.eqv p q) else none
      | _, _ => none) = _
    rw [py_il, py_il]
    show (if (SeqAt.shaped (.tuple [.int a, .list (b.map .int)]) && SeqAt.shaped (.tuple [.int c, .list (d.map .int)])) = true then some (PyData.eqv (.tuple [.int a, .list (b.map .int)]) (.tuple [.int c, .list (d.map .int)])) else none) = _
    rw [shaped_il, shaped_il]
    show some (PyData.eqv (.tuple [.int a, .list (b.map .int)]) (.tuple [.int c, .list (d.map .int)])) = _
    have e1 : PyData.eqv (.int a) (.int c) = decide (a = c) := by simp only [PyData.eqv]; rfl
    simp only [PyData.eqv, PyData.eqvAll, eqv_int, Bool.and_true] at e1 ⊢
    first | rfl | (rw [e1])
  rw [e]; rfl
theorem fNe_bb (a : Bool) : fNe [.v (.sh (.bl a)), .v (.sh (.bl a))] = some (.v (.sh (.bl false))) := by cases a <;> rfl
theorem fEq_nb (a : Bool) : fEq [.v (.sh (.bl (!a))), .v (.sh (.bl a))] = some (.v (.sh (.bl false))) := by cases a <;> rfl
theorem isNot_tt : oIsNot.f [.v (.sh (.bl true)), .v (.sh (.bl true))] = some (.v (.sh (.bl false))) := rfl
theorem rep_2 (c : D) : fMul [.v (.ow [c]), .v (.sh (.int 2))] = some (.v (.ow [c, c])) := rfl
theorem tup_lo (l : List D) : bTuple.f [.v (.sh (.lst l))] = some (.v (.sh (.tup l))) := rfl
theorem bls_repr (x : Bool) : ∃ s : Str, bRepr.f [.v (.ow [.bl x, .bl x])] = some (.v (.sh (.str s))) ∧ fNe [.v (.sh (.str s)), .v (.sh (.str s))] = some (.v (.sh (.bl false))) := by
  obtain ⟨s, so, s1, _⟩ := repr_gen (ds := [.bl x, .bl x]) (by simp only [iDs, iD, Bool.and_self]) (by simp only [szDs, szD]; omega) (by simp only [dpDs, dpD]; omega)
  exact ⟨s, s1, ne_str so⟩
end Tp
namespace Lw
open PySem Tp Fq
def sqh (b : Bool) (l : List Int) : D := if b then .tup (lI l) else .lst (lI l)
section
variable {F : Fld} [h : FOk2 F] {T : Cs}
theorem field_eq2 (G F : Fld) (T : Cs) : e_Field___eq__ [fO G, fO F] T = .ok (.sh (.bl (decide ((G.p : Int) = F.p) && decide (G.m = F.m)))) T := by
  have f1 : fEq [.v (.sh (.lst (lI G.m))), .v (.sh (.lst (lI F.m)))] = some (.v (.sh (.bl (decide (G.m = F.m))))) := by
    show (eqR _ _).map _ = _
    rw [eqR_ints (.l _) (.l _)]; rfl
  have i1 : isiR [0] [.o 0] (.v (.sh (fO F))) = some (.v (.sh (.bl true))) := rfl
  unfold e_Field___eq__ t_Field___eq__
  by_cases c : (G.p : Int) = F.p
  · have dc := decide_eq_true c
    dsimp! only [i1, fO_p, fO_m, f1, dc]
  · have dc := decide_eq_false c
    dsimp! only [i1, fO_p, fO_m, f1, dc, Bool.false_and]
theorem field_no (d : D) (hd : isiR [0] [.o 0] (.v (.sh d)) = some (.v (.sh (.bl false)))) : e_Field___eq__ [fO F, d] T = .ok (.sh (.bl false)) T := by
  unfold e_Field___eq__ t_Field___eq__
  dsimp! only [hd]
theorem fprime : e_Field_prime [fO F] T = .ok (.sh (.int F.p)) T := by
  unfold e_Field_prime t_Field_prime
  dsimp! only [fO_p]
theorem fturns : e_Field_turns [fO F] T = .ok (.sh (.int F.t)) T := by
  unfold e_Field_turns t_Field_turns
  dsimp! only [fO_t]
theorem fsize : e_Field_size [fO F] T = .ok (.sh (.int F.q)) T := by
  unfold e_Field_size t_Field_size
  dsimp! only [fO_q]
theorem fmodulus : e_Field_modulus [fO F] T = .ok (.ow (lI F.m)) T := by
  unfold e_Field_modulus t_Field_modulus
  dsimp! only [fO_m]
theorem is_mod {F : Fld} (hF : F ∈ flds) (c : Bool) (T : Cs) : e_is_modulus [.int F.p, sqh c F.m] T = .ok (.sh (.bl true)) T := by
  simp only [flds, List.mem_cons, List.not_mem_nil, or_false] at hF
  rcases hF with rfl | rfl | rfl | rfl | rfl | rfl | rfl | rfl | rfl | rfl | rfl | rfl | rfl | rfl <;> cases c <;> kernel_rfl
/-- what is and what is not an element -/
inductive Val (F : Fld) : D → Bool → Prop where
  | i (i : Int) : Val F (.int i) (decide (0 ≤ i) && decide (i < (F.q : Int)))
  | b (b : Bool) : Val F (.bl b) false
  | n : Val F .non false
  | s (s : PySem.Str) : Val F (.str s) false
  | l (xs : List D) : Val F (.lst xs) false
  | t (xs : List D) : Val F (.tup xs) false
  | d (xs) : Val F (.dct xs) false
  | o : Val F (fO F) false
theorem is_el {d : D} {b : Bool} (v : Val F d b) : e_is_element [fO F, d] T = .ok (.sh (.bl b)) T := by
  have wf := fun T => want_field (F := F) (T := T)
  have go : ∀ (c : Bool), isiR [0] [.b "int"] (.v (.sh d)) = some (.v (.sh (.bl c))) → (c = true → isiR [0] [.b "bool"] (.v (.sh d)) = some (.v (.sh (.bl true)))) → e_is_element [fO F, d] T = .ok (.sh (.bl false)) T := fun c h1 h2 => by
    cases c
    · unfold e_is_element t_is_element
      have e1 : ∀ T, e_is_in [fO F, d] T = .ok (.sh (.bl false)) T := fun T => by
        have e2 : ∀ T, e_is_count [d] T = .ok (.sh (.bl false)) T := fun T => by
          have e3 : ∀ T, e_is_integer [d] T = .ok (.sh (.bl false)) T := fun T => by
            unfold e_is_integer t_is_integer
            dsimp! only [h1]
          unfold e_is_count t_is_count
          dsimp! only [e3]
        unfold e_is_in t_is_in
        dsimp! only [e2]
      dsimp! only [wf, e1]
    · have h2 := h2 rfl
      unfold e_is_element t_is_element
      have e1 : ∀ T, e_is_in [fO F, d] T = .ok (.sh (.bl false)) T := fun T => by
        have e2 : ∀ T, e_is_count [d] T = .ok (.sh (.bl false)) T := fun T => by
          have e3 : ∀ T, e_is_integer [d] T = .ok (.sh (.bl false)) T := fun T => by
            unfold e_is_integer t_is_integer
            dsimp! only [h1, h2]
          unfold e_is_count t_is_count
          dsimp! only [e3]
        unfold e_is_in t_is_in
        dsimp! only [e2]
      dsimp! only [wf, e1]
  cases v with
  | i i =>
    have e3 : ∀ T, e_is_integer [.int i] T = .ok (.sh (.bl true)) T := fun T => by
      unfold e_is_integer t_is_integer
      dsimp! only []
    by_cases c : 0 ≤ i
    · have dc := decide_eq_true c
      have e2 : ∀ T, e_is_count [.int i] T = .ok (.sh (.bl true)) T := fun T => by
        unfold e_is_count t_is_count
        dsimp! only [e3, dc]
      have e1 : ∀ T, e_is_in [fO F, .int i] T = .ok (.sh (.bl (decide (i < (F.q : Int))))) T := fun T => by
        unfold e_is_in t_is_in
        dsimp! only [e2, fO_q]
      unfold e_is_element t_is_element
      dsimp! only [wf, e1, dc]
    · have dc := decide_eq_false c
      have e2 : ∀ T, e_is_count [.int i] T = .ok (.sh (.bl false)) T := fun T => by
        unfold e_is_count t_is_count
        dsimp! only [e3, dc]
      have e1 : ∀ T, e_is_in [fO F, .int i] T = .ok (.sh (.bl false)) T := fun T => by
        unfold e_is_in t_is_in
        dsimp! only [e2]
      unfold e_is_element t_is_element
      dsimp! only [wf, e1, dc, Bool.false_and]
  | b b => exact go true rfl fun _ => rfl
  | n => exact go false rfl fun z => by cases z
  | s s => exact go false rfl fun z => by cases z
  | l xs => exact go false rfl fun z => by cases z
  | t xs => exact go false rfl fun z => by cases z
  | d xs => exact go false rfl fun z => by cases z
  | o => exact go false rfl fun z => by cases z
theorem vals (hz : FOk2 F) (A0 A1 A2 A3 A4 A7 A8 A9 A10 A11 : Option LV) : ∀ (ds : List D) (v12 v13 : Option LV), (∀ d, d ∈ ds → ∃ b, Val F d b) → ∃ (v12' v13' : Option LV),
    forEv (gNm 12).ev w1__law_right.ev ds [A0, A1, A2, A3, A4, some (.sh (fO F)), some (.sh (.int F.q)), A7, A8, A9, A10, A11, v12, v13] T = .ok (.nx [A0, A1, A2, A3, A4, some (.sh (fO F)), some (.sh (.int F.q)), A7, A8, A9, A10, A11, v12', v13']) T
  | [], v12, v13, _ => ⟨v12, v13, rfl⟩
  | d :: ds, v12, v13, hd => by
    obtain ⟨b, vb⟩ := hd d List.mem_cons_self
    have ie := fun T => is_el (F := F) (T := T) vb
    obtain ⟨s, s1, s2⟩ := bls_repr b
    obtain ⟨w12, w13, ih⟩ := vals hz A0 A1 A2 A3 A4 A7 A8 A9 A10 A11 ds (some (.sh d)) (some (.sh (.bl b))) fun x hx => hd x (List.mem_cons_of_mem _ hx)
    refine ⟨w12, w13, ?_⟩
    cases vb with
    | i i =>
      by_cases c : 0 ≤ i
      · have dc := decide_eq_true c
        rw [dc, Bool.true_and] at ih ie s1
        unfold w1__law_right at ih ⊢
        dsimp! only [dc, ie, rep_2, s1, s2, ih]
      · have dc := decide_eq_false c
        rw [dc, Bool.false_and] at ih ie s1
        unfold w1__law_right at ih ⊢
        dsimp! only [dc, ie, rep_2, s1, s2, ih]
    | b b =>
      have i1 : isiR [0] [.b "int"] (.v (.sh (.bl b))) = some (.v (.sh (.bl true))) := rfl
      have i2 : isiR [0] [.b "bool"] (.v (.sh (.bl b))) = some (.v (.sh (.bl true))) := rfl
      unfold w1__law_right at ih ⊢
      dsimp! only [i1, i2, ie, rep_2, s1, s2, ih]
    | n =>
      have i1 : isiR [0] [.b "int"] (.v (.sh .non)) = some (.v (.sh (.bl false))) := rfl
      unfold w1__law_right at ih ⊢
      dsimp! only [i1, ie, rep_2, s1, s2, ih]
    | s s' =>
      have i1 : isiR [0] [.b "int"] (.v (.sh (.str s'))) = some (.v (.sh (.bl false))) := rfl
      unfold w1__law_right at ih ⊢
      dsimp! only [i1, ie, rep_2, s1, s2, ih]
    | l xs =>
      have i1 : isiR [0] [.b "int"] (.v (.sh (.lst xs))) = some (.v (.sh (.bl false))) := rfl
      unfold w1__law_right at ih ⊢
      dsimp! only [i1, ie, rep_2, s1, s2, ih]
    | t xs =>
      have i1 : isiR [0] [.b "int"] (.v (.sh (.tup xs))) = some (.v (.sh (.bl false))) := rfl
      unfold w1__law_right at ih ⊢
      dsimp! only [i1, ie, rep_2, s1, s2, ih]
    | d xs =>
      have i1 : isiR [0] [.b "int"] (.v (.sh (.dct xs))) = some (.v (.sh (.bl false))) := rfl
      unfold w1__law_right at ih ⊢
      dsimp! only [i1, ie, rep_2, s1, s2, ih]
    | o =>
      have i1 : isiR [0] [.b "int"] (.v (.sh (fO F))) = some (.v (.sh (.bl false))) := rfl
      unfold w1__law_right at ih ⊢
      dsimp! only [i1, ie, rep_2, s1, s2, ih]
end
end Lw
end
section
set_option Elab.async false
set_option linter.all false
set_option maxRecDepth 100000
set_option maxHeartbeats 4000000
namespace Lw
open PySem Tp Fq
theorem law_right (a b : Int) (ha : 0 ≤ a) : ∃ T, e__law_right [.cell 0] (pt a b []) = .ok (.sh (.bl true)) T := by
  obtain ⟨F, a1, b1, hF, h1, e1⟩ := field a b [] ha
  have inst : FOk2 F := flds_ok2 hF
  obtain ⟨d, a2, b2, d0, d1, h2, e2⟩ := draw 2 a1 b1 [] (by omega) (by omega) h1
  obtain ⟨G, a3, b3, hG, h3, e3⟩ := field a2 b2 [] h2
  have instG : FOk2 G := flds_ok2 hG
  have S := sm F
  have q4 := S.q4
  have q1 := S.q128
  have pq := S.pq
  have p2 := (facts F).p2
  have h7 := t7 (F := F)
  have ml := mlen (F := F)
  obtain ⟨x, a4, b4, x0, x1, h4, e4⟩ := draw F.q a3 b3 [] (by omega) (by omega) h3
  have mk1 := fun T => mk_field hF T
  have mk2 := fun T => mkT_field hF T
  have mk3 := fun T => mk_field hG T
  have ls := fun T => lsize (F := F) (T := T)
  have bd := m_bd (F := F)
  -- repr of what is handed in
  have rp : ∀ c : Bool, ∃ s : PySem.Str, bRepr.f [.v (.sh (sqh c F.m))] = some (.v (.sh (.str s))) ∧ fNe [.v (.sh (.str s)), .v (.sh (.str s))] = some (.v (.sh (.bl false))) := fun c => by
    obtain ⟨s, s1, s2⟩ := repr_d (d := sqh c F.m) (by cases c <;> exact iDs_int bd) (by cases c <;> (show szDs (lI F.m) + 3 ≤ 999990; rw [szDs_int]; omega)) (by cases c <;> (show dpDs (lI F.m) + 1 ≤ 50; rw [dpDs_int]; omega))
    exact ⟨s, s2, ne_str s1⟩
  obtain ⟨t, t0, t1, t2⟩ := repr_gen (ds := [D.int F.p, .int F.t, .int F.q]) (iDs_int (l := [(F.p : Int), F.t, F.q]) (fun y hy => by
    simp only [List.mem_cons, List.not_mem_nil, or_false] at hy
    rcases hy with rfl | rfl | rfl <;> omega)) (by simp only [szDs, szD]; omega) (by simp only [dpDs, dpD]; omega)
  have tn := ne_str t0
  -- texts
  have r1 := repr_l bd (by omega)
  have r2 := repr_i (i := (F.p : Int)) (by omega) (by omega)
  have u1 := rs_len bd
  have u2 := int_len (i := (F.p : Int)) (by omega) (by omega)
  have fre : ∀ T, reprK 0 e_Field___repr__ (fO F) T = .ok (.v (.sh (.str (fStr F)))) T := fun T => reprK_o (frepr (F := F))
  have eS : fStr F = ("Field(" : PySem.Str) ++ iStr (F.p : Int) ++ (", " : PySem.Str) ++ rs F.m ++ (")" : PySem.Str) := by
    unfold fStr
    rw [Str.empty_append]
  have so := fStr_ok (F := F)
  rw [eS] at fre so
  have s1 : fAdd [.v (.sh (.str ("Field(" : PySem.Str))), .v (.sh (.str (iStr (F.p : Int))))] = _ := add_s (by rw [len_F]; omega)
  have s2 : fAdd [.v (.sh (.str (("Field(" : PySem.Str) ++ iStr (F.p : Int)))), .v (.sh (.str (", " : PySem.Str)))] = _ := add_s (by rw [Str.length_append, len_F, len_c]; omega)
  have s3 : fAdd [.v (.sh (.str (("Field(" : PySem.Str) ++ iStr (F.p : Int) ++ (", " : PySem.Str)))), .v (.sh (.str (rs F.m)))] = _ := add_s (by rw [Str.length_append, Str.length_append, len_F, len_c]; omega)
  have s4 : fAdd [.v (.sh (.str (("Field(" : PySem.Str) ++ iStr (F.p : Int) ++ (", " : PySem.Str) ++ rs F.m))), .v (.sh (.str (")" : PySem.Str)))] = _ := add_s (by rw [Str.length_append, Str.length_append, Str.length_append, len_F, len_c, len_e]; omega)
  have sn := ne_str so
  -- fields
  have pk1 : ∀ T, proK 0 e_Field_prime T (fO F) = .ok (.v (.sh (.int F.p))) T := fun T => proK_o (fprime (F := F)) rfl
  have pk2 : ∀ T, proK 0 e_Field_turns T (fO F) = .ok (.v (.sh (.int F.t))) T := fun T => proK_o (fturns (F := F)) rfl
  have pk3 : ∀ T, proK 0 e_Field_size T (fO F) = .ok (.v (.sh (.int F.q))) T := fun T => proK_o (fsize (F := F)) rfl
  have mp : ∀ T, mtK 0 e_Field_modulus (fO F) [] T = .ok (.v (.ow (lI F.m))) T := fun T => mtK_o (fmodulus (F := F)) rfl
  have nm' : fNe [.v (.ow (lI F.m)), .v (.sh (.lst (lI F.m)))] = some (.v (.sh (.bl false))) := by rw [fNe_ol, decide_eq_true rfl]; rfl
  have fe : ∀ (neg : Bool) (T : Cs), objK neg 0 e_Field___eq__ T (fO F) (fO F) = .ok (.v (.sh (.bl (if neg then !true else true)))) T := fun neg T => by
    have := field_eq2 F F T
    rw [decide_eq_true rfl, decide_eq_true rfl] at this
    exact objK_o this
  have fg : ∀ (neg : Bool) (T : Cs), objK neg 0 e_Field___eq__ T (fO G) (fO F) = .ok (.v (.sh (.bl (if neg then !(decide ((G.p : Int) = F.p) && decide (G.m = F.m)) else (decide ((G.p : Int) = F.p) && decide (G.m = F.m)))))) T := fun neg T => objK_o (field_eq2 G F T)
  have fe1 := fe false
  have fe2 := fe true
  have fg1 := fg false
  have fg2 := fg true
  have il := fEq_il G.p F.p G.m F.m
  generalize (decide ((G.p : Int) = F.p) && decide (G.m = F.m)) = r at *
  have fg1 : ∀ T : Cs, objK false 0 e_Field___eq__ T (fO G) (fO F) = .ok (.v (.sh (.bl r))) T := fg1
  have fg2 : ∀ T : Cs, objK true 0 e_Field___eq__ T (fO G) (fO F) = .ok (.v (.sh (.bl (!r)))) T := fg2
  have fe1 : ∀ T : Cs, objK false 0 e_Field___eq__ T (fO F) (fO F) = .ok (.v (.sh (.bl true))) T := fe1
  have fe2 : ∀ T : Cs, objK true 0 e_Field___eq__ T (fO F) (fO F) = .ok (.v (.sh (.bl false))) T := fe2
  have n1 : ∀ (l : List D) (T : Cs), objDK false 0 e_Field___eq__ T (fO F) (.lst l) = .ok (.v (.sh (.bl false))) T := fun l T => objDK_o (field_no (F := F) (.lst l) rfl) rfl
  have n2 : ∀ (s : PySem.Str) (T : Cs), objDK false 0 e_Field___eq__ T (fO F) (.str s) = .ok (.v (.sh (.bl false))) T := fun s T => objDK_o (field_no (F := F) (.str s) rfl) rfl
  have n3 : ∀ (l : List D) (T : Cs), objDK false 0 e_Field___eq__ T (fO F) (.tup l) = .ok (.v (.sh (.bl false))) T := fun l T => objDK_o (field_no (F := F) (.tup l) rfl) rfl
  have pw : oPow.f [.v (.sh (.int 10)), .v (.sh (.int 25))] = some (.v (.sh (.int 10000000000000000000000000))) := by kernel_rfl
  obtain ⟨v12, v13, vl⟩ := vals (F := F) (T := pt a4 b4 []) inst (some (.sh (.cell 0))) (some (.sh (.int F.p))) (some (.sh (.lst (lI F.m)))) (some (.sh (sqh (decide (d = 0)) F.m))) (some (.sh (.str (rp (decide (d = 0))).choose))) (some (.sh (fO F))) (some (.sh (.int G.p))) (some (.sh (.lst (lI G.m)))) (some (.sh (fO G))) (some (.sh (.lst [.int 0, .int 1, .int ((F.q : Int) - 1), .int F.q, .int ((F.q : Int) + 1), .int (-1), .int 10000000000000000000000000, .bl true, .bl false, .non, .str "1", .lst [.int 1], .tup [], .dct [], fO F])))
    [.int 0, .int 1, .int ((F.q : Int) - 1), .int F.q, .int ((F.q : Int) + 1), .int (-1), .int 10000000000000000000000000, .bl true, .bl false, .non, .str "1", .lst [.int 1], .tup [], .dct [], fO F, .int x] none none
    (List.forall_mem_cons.mpr ⟨⟨_, .i _⟩, List.forall_mem_cons.mpr ⟨⟨_, .i _⟩, List.forall_mem_cons.mpr ⟨⟨_, .i _⟩, List.forall_mem_cons.mpr ⟨⟨_, .i _⟩, List.forall_mem_cons.mpr ⟨⟨_, .i _⟩, List.forall_mem_cons.mpr ⟨⟨_, .i _⟩, List.forall_mem_cons.mpr ⟨⟨_, .i _⟩, List.forall_mem_cons.mpr ⟨⟨_, .b _⟩, List.forall_mem_cons.mpr ⟨⟨_, .b _⟩, List.forall_mem_cons.mpr ⟨⟨_, .n⟩, List.forall_mem_cons.mpr ⟨⟨_, .s _⟩, List.forall_mem_cons.mpr ⟨⟨_, .l _⟩, List.forall_mem_cons.mpr ⟨⟨_, .t _⟩, List.forall_mem_cons.mpr ⟨⟨_, .d _⟩, List.forall_mem_cons.mpr ⟨⟨_, .o⟩, List.forall_mem_cons.mpr ⟨⟨_, .i _⟩, fun _ hp => absurd hp List.not_mem_nil⟩⟩⟩⟩⟩⟩⟩⟩⟩⟩⟩⟩⟩⟩⟩⟩)
  obtain ⟨hs1, hs2⟩ := (rp (decide (d = 0))).choose_spec
  generalize (rp (decide (d = 0))).choose = s at *
  have im := fun T => is_mod hF (decide (d = 0)) T
  have al : ∀ A B C' D1 E1 F1 G1 H1 I1 J1 K1 L1 M1 N1 O1 P1 : D, fAdd [.v (.sh (.lst [A, B, C', D1, E1, F1, G1, H1, I1, J1, K1, L1, M1, N1, O1])), .v (.ow [P1])] = some (.v (.ow [A, B, C', D1, E1, F1, G1, H1, I1, J1, K1, L1, M1, N1, O1, P1])) := fun A B C' D1 E1 F1 G1 H1 I1 J1 K1 L1 M1 N1 O1 P1 => add_lo _ _ (by simp)
  refine ⟨pt a4 b4 [], ?_⟩
  have obj : D.obj 0 (fA F) = fO F := rfl
  have objG : D.obj 0 (fA G) = fO G := rfl
  by_cases hd : d = 0
  · have hd' := decide_eq_true hd
    rw [hd'] at hs1 im vl
    have hs1 : bRepr.f [.v (.sh (.tup (lI F.m)))] = _ := hs1
    have im : ∀ T, e_is_modulus [.int F.p, .tup (lI F.m)] T = _ := im
    have vl' : forEv (gNm 12).ev w1__law_right.ev [.int 0, .int 1, .int ((F.q : Int) - 1), .int F.q, .int ((F.q : Int) + 1), .int (-1), .int 10000000000000000000000000, .bl true, .bl false, .non, .str "1", .lst [.int 1], .tup [], .dct [], fO F, .int x] [some (.sh (.cell 0)), some (.sh (.int F.p)), some (.sh (.lst (lI F.m))), some (.sh (.tup (lI F.m))), some (.sh (.str s)), some (.sh (fO F)), some (.sh (.int F.q)), some (.sh (fO F)), some (.sh (.int G.p)), some (.sh (.lst (lI G.m))), some (.sh (fO G)), some (.sh (.lst [.int 0, .int 1, .int ((F.q : Int) - 1), .int F.q, .int ((F.q : Int) + 1), .int (-1), .int 10000000000000000000000000, .bl true, .bl false, .non, .str "1", .lst [.int 1], .tup [], .dct [], fO F])), none, none] (pt a4 b4 []) = _ := vl
    unfold e__law_right t__law_right
    dsimp! only [e1, pr, e2, hd', tup_lo, hs1, hs2, cMake_e, cMakeK_e, mk1, mk2, mk3, obj, objG, ls, cProp_e, pk1, pk2, pk3, mlen, t1, t2, tn, cObjRepr_e, fre, r1, r2, s1, s2, s3, s4, sn, im, isNot_tt, cMeth0_e, mp, nm', sAppE_e, appEK_o, fe1, fe2, e3, fg1, fg2, il, fNe_bb, fEq_nb, cObjEqD_e, tObjEqD_e, n1, n2, n3, pw, e4, al, vl']
  · have hd' := decide_eq_false hd
    rw [hd'] at hs1 im vl
    have hs1 : bRepr.f [.v (.sh (.lst (lI F.m)))] = _ := hs1
    have es : s = rs F.m := D.str.inj (LV.sh.inj (Tp.R.v.inj (Option.some.inj (hs1.symm.trans r1))))
    rw [es] at vl hs2 hs1
    have im : ∀ T, e_is_modulus [.int F.p, .lst (lI F.m)] T = _ := im
    have vl' : forEv (gNm 12).ev w1__law_right.ev [.int 0, .int 1, .int ((F.q : Int) - 1), .int F.q, .int ((F.q : Int) + 1), .int (-1), .int 10000000000000000000000000, .bl true, .bl false, .non, .str "1", .lst [.int 1], .tup [], .dct [], fO F, .int x] [some (.sh (.cell 0)), some (.sh (.int F.p)), some (.sh (.lst (lI F.m))), some (.sh (.lst (lI F.m))), some (.sh (.str (rs F.m))), some (.sh (fO F)), some (.sh (.int F.q)), some (.sh (fO F)), some (.sh (.int G.p)), some (.sh (.lst (lI G.m))), some (.sh (fO G)), some (.sh (.lst [.int 0, .int 1, .int ((F.q : Int) - 1), .int F.q, .int ((F.q : Int) + 1), .int (-1), .int 10000000000000000000000000, .bl true, .bl false, .non, .str "1", .lst [.int 1], .tup [], .dct [], fO F])), none, none] (pt a4 b4 []) = _ := vl
    unfold e__law_right t__law_right
    dsimp! only [e1, pr, e2, hd', tup_lo, hs1, hs2, cMake_e, cMakeK_e, mk1, mk2, mk3, obj, objG, ls, cProp_e, pk1, pk2, pk3, mlen, t1, t2, tn, cObjRepr_e, fre, r1, r2, s1, s2, s3, s4, sn, im, isNot_tt, cMeth0_e, mp, nm', sAppE_e, appEK_o, fe1, fe2, e3, fg1, fg2, il, fNe_bb, fEq_nb, cObjEqD_e, tObjEqD_e, n1, n2, n3, pw, e4, al, vl']
theorem law : ∀ ns : List Int, ns.length ≤ 63 → ∃ T', e_law [.fz (ns.map D.int)] [] = .ok (.sh (.bl true)) T' := by
  intro ns _
  obtain ⟨a, b, ha, e⟩ := pot ns
  obtain ⟨T, e2⟩ := law_right a b ha
  refine ⟨T, ?_⟩
  have e3 : e__law_pot [.fz (ns.map D.int), .int 0] [] = _ := e []
  have e2' : e__law_right [.cell 0] [[.int a, .int b]] = _ := e2
  unfold e_law t_law
  dsimp! only [e3, e2']
end Lw
end
section
set_option Elab.async false
set_option linter.all false
set_option maxRecDepth 100000
set_option maxHeartbeats 0
namespace Lw
open PySem PySem.Spec PyProof.Rows L2 Tp
theorem b_end : BindOk s_law 1 [] [.a 0] := ⟨rfl, rfl, fun _ kV doc pm an cdv ct us ws h1 h2 => match us, ws, h1, h2 with | [_], [], _, _ => by kernel_rfl, fun h => absurd rfl h⟩
end Lw
open PySem PySem.W PySem.Calls PyProof.Rows
theorem PySem.Challenge.cw_turnpowers_k11_whole_fields_made_holds : PySem.Challenge.rw_turnpowers_k11_whole_fields_made.Holds := by
  w_on; o_law
  refine HandSHeadRun.head_any (r := OpenLaw.row PySem.Challenge.rw_turnpowers_k11_whole_fields_made) (q := view (OpenLaw.row PySem.Challenge.rw_turnpowers_k11_whole_fields_made).prog [47]) (H := Lw.hk) (ob := Lw.ob) (M := 100000) (loose := Lw.lo) (d := HandSHeadRun.topDef (OpenLaw.row PySem.Challenge.rw_turnpowers_k11_whole_fields_made).prog 47) (kwd := []) Lw.ob_eq
    (by kernel_rfl) (fun s => by kernel_rfl) Lw.run (by kernel_rfl) (by kernel_rfl) (by kernel_rfl) (by rfl) (by first | assumption | decide +kernel) (by decide +kernel) ⟨rfl, rfl, rfl, rfl, rfl, by decide +kernel⟩ ?hw ?hc
  case hw => w_witness2
  case hc =>
    refine Tp.law_end (l := PySem.Challenge.rw_turnpowers_k11_whole_fields_made) (n := 63) (k := 10) (x := "_law_script") (s := Lw.s_law) (ev := Lw.e_law) rfl (by decide) (by kernel_rfl) ⟨rfl, by decide, by decide⟩ rfl rfl Lw.b_end rfl ?F Lw.law
    intro w mg fa h Y G hmg0
    obtain ⟨K, KX, c⟩ := Y
    have hmg : mg ("law" : PySem.Str) = some (.ref fa) := by
      have e : (HandSHeadRun.topDef (OpenLaw.row PySem.Challenge.rw_turnpowers_k11_whole_fields_made).prog 47).name = ("law" : PySem.Str) := by kernel_rfl
      rw [← e]
      exact hmg0
    refine ⟨K, KX, fun base => ?_⟩
    have S := Tp.Hdp.of (P := PySem.Challenge.rw_turnpowers_k11_whole_fields_made.prog) (base := base) c KX G
    have e := hmg.symm.trans (S.hd.glo 56 "law" (by kernel_rfl))
    cases e
    exact Lw.f_law S
end
