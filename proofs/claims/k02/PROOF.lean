import PyProof.Rows.All
import Wide.All
import OpenK.AllK
import Wide.FinOn
import HandS.ForMost
import HandS.Exc
import HandS.WordsExc
import HandS.CallSlots
import HandS.Walk
import HandS.Style
import HandS.Wide
import HandS.IsInst
import HandS.FStr
import HandS.TupAny
import HandS.Deep
import HandS.Zip
import HandS.Conv
import HandS.Flow
import HandS.Defaults
import HandS.HeadHook1
import KE.KDictKeyed
import KE.KDictZip
import KE.KDictWalk
import KE.GoesDict
import HandS.TupMul
import PyProof.ListStr
import PyProof.ListMulRoad
import PyProof.FactsAll.tuple_2
import HandS.ExcInit
import HandS.ExcField
import HandS.ExcCtx
import KE.KExcInit
import HandS.Head0
import HandS.Head1
import HandS.Head2
import HandS.HeadEnd
import HandS.HeadHook2
import KE.GoesEnum
import PyProof.Rows.EnumRows
import KE.SortData
import HandS.TryMany
import HandS.MakeKwOnly
import HandS.CallLocal
import HandS.More
import HandS.SlotsOwn
import HandS.DictComp
import HandS.Nested
import PySem.Challenge.RW_cheapathand_k02_priced_books_are_let_or
set_option Elab.async false
set_option linter.all false
set_option maxRecDepth 100000
set_option maxHeartbeats 4000000
namespace DL
open PySem PySem.Spec PyProof.Rows L2

/-! ### values as trees, objects that change in a store -/
inductive D where
  | non | bl (b : Bool) | int (i : Int) | str (x : Str) | tup (xs : List D) | ref (n : Nat) | fn (x : Str)

inductive Ob where
  | lst (xs : List D)
  | fix (xs : List D)
  | ins (c : Str) (fs : List (Str × D))
  /-- a dict: are its keys tuples? its epoch, its pairs in the order of insertion -/
  | dic (t : Bool) (ep : Nat) (kvs : List (D × D))
  /-- a dict in the making, its keys ints and texts -/
  | dkK (kvs : List (D × D))
def kN : Key → NestedKey
  | .inl i => .num i
  | .inr x => .text x
/-- the program and the world that all is about -/
class PWd where
  P : Program
  w : World
mutual
/-- a tree as a key -/
def nkD : D → Option NestedKey
  | .non => some .none
  | .int i => some (.num i)
  | .str x => some (.text x)
  | .tup xs => (nksD xs).map .tup
  | .bl _ => none
  | .ref _ => none
  | .fn _ => none
def nksD : List D → Option (List NestedKey)
  | [] => some []
  | x :: r => match nkD x, nksD r with
    | some a, some b => some (a :: b)
    | _, _ => none
end
/-- is it a key of a dict of this sort: int or text; a tuple -/
def sortK (t : Bool) : NestedKey → Bool
  | .num _ => !t
  | .text _ => !t
  | .tup ks => t && decide ((NestedKey.tup ks).depth ≤ 8)
  | .none => false
/-- an entry of the dict's table -/
def EntR [PWd] (x : NestedKey × V × V) (e : DictEntry) : Prop := e.hash = x.1.hash PWd.w ∧ RelV x.2.1 e.key ∧ RelV x.2.2 e.val
def DicP [PWd] (a : Addr) (ep : Nat) (xs : List (NestedKey × V × V)) (h : Heap) : Prop := xs.length ≤ sizeLine ∧ (a == sysModules) = false ∧ (xs.map (·.1)).Nodup ∧ ∃ o es, h.get? a = some o ∧ o.ExactDict ∧ o.data = .dict es ep ∧ Paired EntR xs es.toList
def DicO [PWd] (a : Addr) (ep : Nat) (xs : List (NestedKey × V × V)) : HO := .ext (DicP a ep xs)

abbrev Sto := List Ob
abbrev Ev := List (Option D)
structure DX where
  cls : Str
  fs : Option (List (Str × D))
abbrev RD := D → Sto → Prop
abbrev RX := DX → Sto → Prop
abbrev TD := RX → Ev → Sto → RD → Prop
abbrev TDT := RX → Ev → Sto → (Bool → Sto → Prop) → Prop
abbrev TDA := RX → Ev → Sto → (List D → Sto → Prop) → Prop
structure DEnds where
  nx : Ev → Sto → Prop
  rt : RD
  bk : Ev → Sto → Prop
  ct : Ev → Sto → Prop
  ex : DX → Ev → Sto → Prop
abbrev TDS := DEnds → Ev → Sto → Prop
abbrev DSp := List D → Sto → RD → RX → Prop

/-- a fork, held shut -/
inductive ift (b : Bool) (A B : Prop) : Prop
  | t (e : b = true) (h : A)
  | f (e : b = false) (h : B)
theorem ift_t {A B : Prop} (h : ift true A B) : A := by
  cases h with
  | t _ h => exact h
  | f e _ => cases e
theorem ift_f {A B : Prop} (h : ift false A B) : B := by
  cases h with
  | t e _ => cases e
  | f _ h => exact h
theorem ifT {b : Bool} {A B : Prop} (e : b = true) (h : A) : ift b A B := .t e h
theorem ifF {b : Bool} {A B : Prop} (e : b = false) (h : B) : ift b A B := .f e h
theorem ifB {b : Bool} {A B : Prop} (h1 : b = true → A) (h2 : b = false → B) : ift b A B := by
  cases b
  · exact ifF rfl (h2 rfl)
  · exact ifT rfl (h1 rfl)
/-! ### how values and objects are laid -/
section
variable (K : PySem.W.Frag) (H : Hp) (μ : List Addr)
mutual
inductive Rep : D → V → Prop
  | non : Rep .non .non
  | bl (b : Bool) : Rep (.bl b) (.bl b)
  | int (i : Int) : Rep (.int i) (.int i)
  | str (x : Str) : Rep (.str x) (.str x)
  | tup {a : Addr} {vs : List V} {ds : List D} : SqT K H a vs → Reps ds vs → Rep (.tup ds) (.ref a)
  | ref {n : Nat} {a : Addr} : μ[n]? = some a → Rep (.ref n) (.ref a)
  | fn (x : Str) : Rep (.fn x) (.ref (He.ga K x))
inductive Reps : List D → List V → Prop
  | nil : Reps [] []
  | cons {d : D} {v : V} {ds : List D} {vs : List V} : Rep d v → Reps ds vs → Reps (d :: ds) (v :: vs)
end
abbrev RepF : List (Str × D) → List (Str × V) → Prop := Paired fun p q => p.1 = q.1 ∧ Rep K H μ p.2 q.2
def FixL (a : Addr) (xs : List V) : Prop :=
  (∃ o, H a = some (.frz o (.lst xs))) ∨
    ∃ (o : Obj) (its : Array Value) (n : Nat), K.lookup a = some o ∧ o.cls = .type "list" ∧ o.dict = none ∧ o.data = .seq its n ∧ its.size ≤ sizeLine ∧ Vals xs its.toList
def RepKV (t : Bool) : List (D × D) → List (NestedKey × V × V) → Prop := Paired fun p x => nkD p.1 = some x.1 ∧ sortK t x.1 = true ∧ Rep K H μ p.1 x.2.1 ∧ Rep K H μ p.2 x.2.2
def RepDK : List (D × D) → List (Key × V) → Prop := Paired fun p q => nkD p.1 = some (kN q.1) ∧ Rep K H μ p.2 q.2
def RepO [PWd] (a : Addr) : Ob → Prop
  | .dkK kvs => ∃ ks, H a = some (.dK ks) ∧ RepDK K H μ kvs ks
  | .dic t ep kvs => ∃ xs, H a = some (DicO a ep xs) ∧ RepKV K H μ t kvs xs
  | .lst ds => ∃ vs, H a = some (.lst vs) ∧ Reps K H μ ds vs
  | .fix ds => ∃ vs, FixL K H a vs ∧ Reps K H μ ds vs
  | .ins c fs => ∃ dx gs, H a = some (.ins (He.ga K c) dx gs) ∧ RepF K H μ fs gs
def RepX (x : DX) (cls : Value) (d : Option Addr) : Prop := cls = .ref (He.ga K x.cls) ∧ match x.fs with
  | none => d = none
  | some fs => ∃ dd gs, d = some dd ∧ H dd = some (.xd gs) ∧ RepF K H μ fs gs
end
def isFix : Option Ob → Bool
  | some (.fix _) => true
  | _ => false
structure Ext (K : PySem.W.Frag) (H : Hp) (μ : List Addr) (H' : Hp) (μ' : List Addr) : Prop where
  mu : ∀ (i : Nat) a, μ[i]? = some a → μ'[i]? = some a
  tup : ∀ a xs, SqT K H a xs → SqT K H' a xs
  frz : ∀ a o u, H a = some (.frz o u) → H' a = some (.frz o u)
  xds : ∀ a fs, H a = some (.xd fs) → H' a = some (.xd fs)
variable [PWd]
structure Sim (K : PySem.W.Frag) (H : Hp) (μ : List Addr) (S : Sto) : Prop where
  len : μ.length = S.length
  inj : ∀ (i j : Nat) a, μ[i]? = some a → μ[j]? = some a → isFix S[i]? = false → isFix S[j]? = false → i = j
  ob : ∀ (i : Nat) a o, μ[i]? = some a → S[i]? = some o → RepO K H μ a o
structure RepE (K : PySem.W.Frag) (H : Hp) (μ : List Addr) (ρ : Ev) (σ : L2.St) : Prop where
  len : σ.length = ρ.length
  at_ : ∀ (i : Nat) d, ρ[i]? = some (some d) → ∃ v, σ[i]? = some (some v) ∧ Rep K H μ d v
structure At (K : PySem.W.Frag) (σ : L2.St) (H : Hp) (ρ : Ev) (μ : List Addr) (S : Sto) : Prop where
  env : RepE K H μ ρ σ
  sim : Sim K H μ S
section
variable {K : PySem.W.Frag} {H H' H'' : Hp} {μ μ' μ'' : List Addr} {S : Sto}
theorem Ext.refl : Ext K H μ H μ := ⟨fun _ _ h => h, fun _ _ h => h, fun _ _ _ h => h, fun _ _ h => h⟩
theorem Ext.trans (a : Ext K H μ H' μ') (b : Ext K H' μ' H'' μ'') : Ext K H μ H'' μ'' :=
  ⟨fun i x h => b.mu i x (a.mu i x h), fun i x h => b.tup i x (a.tup i x h), fun i x u h => b.frz i x u (a.frz i x u h), fun i x h => b.xds i x (a.xds i x h)⟩
mutual
theorem Rep.mono (e : Ext K H μ H' μ') : ∀ {d v}, Rep K H μ d v → Rep K H' μ' d v
  | _, _, .non => .non
  | _, _, .bl b => .bl b
  | _, _, .int i => .int i
  | _, _, .str x => .str x
  | _, _, .tup h r => .tup (e.tup _ _ h) (Reps.mono e r)
  | _, _, .ref h => .ref (e.mu _ _ h)
  | _, _, .fn x => .fn x
theorem Reps.mono (e : Ext K H μ H' μ') : ∀ {ds vs}, Reps K H μ ds vs → Reps K H' μ' ds vs
  | _, _, .nil => .nil
  | _, _, .cons h r => .cons (Rep.mono e h) (Reps.mono e r)
end
theorem RepF.mono (e : Ext K H μ H' μ') : ∀ {fs gs}, RepF K H μ fs gs → RepF K H' μ' fs gs
  | _, _, .nil => .nil
  | _, _, .cons h r => .cons ⟨h.1, h.2.mono e⟩ (RepF.mono e r)
theorem RepKV.mono {t : Bool} (e : Ext K H μ H' μ') : ∀ {fs gs}, RepKV K H μ t fs gs → RepKV K H' μ' t fs gs
  | _, _, .nil => .nil
  | _, _, .cons h r => .cons ⟨h.1, h.2.1, h.2.2.1.mono e, h.2.2.2.mono e⟩ (RepKV.mono e r)
theorem RepDK.mono (e : Ext K H μ H' μ') : ∀ {fs : List (D × D)} {gs : List (Key × V)}, RepDK K H μ fs gs → RepDK K H' μ' fs gs
  | _, _, .nil => .nil
  | _, _, .cons h r => .cons ⟨h.1, h.2.mono e⟩ (RepDK.mono e r)
theorem RepE.mono {ρ : Ev} {σ : L2.St} (r : RepE K H μ ρ σ) (e : Ext K H μ H' μ') : RepE K H' μ' ρ σ :=
  ⟨r.len, fun i d h => let ⟨v, h1, h2⟩ := r.at_ i d h; ⟨v, h1, h2.mono e⟩⟩
theorem FixL.mono (e : Ext K H μ H' μ') {a : Addr} {xs : List V} (h : FixL K H a xs) : FixL K H' a xs := by
  rcases h with ⟨o, h⟩ | h
  · exact .inl ⟨o, e.frz _ _ _ h⟩
  · exact .inr h
theorem FixL.sql {a : Addr} {xs : List V} (h : FixL K H a xs) : SqL K H a xs := by
  rcases h with ⟨o, h⟩ | h
  · exact .inl (.inr ⟨o, h⟩)
  · exact .inr h
theorem Reps.length {ds : List D} {vs : List V} (r : Reps K H μ ds vs) : ds.length = vs.length := by
  induction ds generalizing vs with
  | nil => cases r; rfl
  | cons d ds ih => cases r with | cons h t => simp [ih t]
theorem Reps.get : ∀ {ds : List D} {vs : List V} {i : Nat} {d : D}, Reps K H μ ds vs → ds[i]? = some d → ∃ v, vs[i]? = some v ∧ Rep K H μ d v
  | _, _, _, _, .nil, e => by simp at e
  | _, _, 0, _, .cons r _, e => by simp at e; subst e; exact ⟨_, rfl, r⟩
  | _, _, i + 1, x, .cons _ t, e => by
    obtain ⟨u, h1, h2⟩ := Reps.get (i := i) (d := x) t (by simpa using e)
    exact ⟨u, by simpa using h1, h2⟩
theorem Reps.getV : ∀ {ds : List D} {vs : List V} {i : Nat} {v : V}, Reps K H μ ds vs → vs[i]? = some v → ∃ d, ds[i]? = some d ∧ Rep K H μ d v
  | _, _, _, _, .nil, e => by simp at e
  | _, _, 0, _, .cons r _, e => by simp at e; subst e; exact ⟨_, rfl, r⟩
  | _, _, i + 1, x, .cons _ t, e => by
    obtain ⟨u, h1, h2⟩ := Reps.getV (i := i) (v := x) t (by simpa using e)
    exact ⟨u, by simpa using h1, h2⟩
theorem Reps.append : ∀ {ds es : List D} {vs us : List V}, Reps K H μ ds vs → Reps K H μ es us → Reps K H μ (ds ++ es) (vs ++ us)
  | _, _, _, _, .nil, s => s
  | _, _, _, _, .cons r t, s => .cons r (Reps.append t s)
theorem Reps.take : ∀ {ds : List D} {vs : List V} (n : Nat), Reps K H μ ds vs → Reps K H μ (ds.take n) (vs.take n)
  | _, _, 0, _ => .nil
  | _, _, _ + 1, .nil => .nil
  | _, _, n + 1, .cons r t => .cons r (Reps.take n t)
theorem Reps.drop : ∀ {ds : List D} {vs : List V} (n : Nat), Reps K H μ ds vs → Reps K H μ (ds.drop n) (vs.drop n)
  | _, _, 0, r => r
  | _, _, _ + 1, .nil => .nil
  | _, _, n + 1, .cons _ t => Reps.drop n t
theorem Reps.set {d : D} {v : V} (r : Rep K H μ d v) : ∀ {ds : List D} {vs : List V} (i : Nat), Reps K H μ ds vs → Reps K H μ (ds.set i d) (vs.set i v)
  | _, _, _, .nil => .nil
  | _, _, 0, .cons _ t => .cons r t
  | _, _, i + 1, .cons q t => .cons q (Reps.set r i t)
theorem Reps.reverse {ds : List D} {vs : List V} (r : Reps K H μ ds vs) : Reps K H μ ds.reverse vs.reverse := by
  induction ds generalizing vs with
  | nil => cases r; exact .nil
  | cons d ds ih => cases r with
    | cons h t => rw [List.reverse_cons, List.reverse_cons]; exact (ih t).append (.cons h .nil)
theorem Reps.dropLast {ds : List D} {vs : List V} (r : Reps K H μ ds vs) : Reps K H μ ds.dropLast vs.dropLast := by
  rw [List.dropLast_eq_take, List.dropLast_eq_take, r.length]
  exact r.take _
theorem Reps.ints : ∀ {ns : List Int} {vs : List V}, Reps K H μ (ns.map D.int) vs → vs = ns.map V.int
  | [], _, .nil => rfl
  | n :: ns, _, .cons h t => by cases h; rw [Reps.ints t]; rfl
theorem Reps.of_ints : ∀ ns : List Int, Reps K H μ (ns.map D.int) (ns.map V.int)
  | [] => .nil
  | n :: ns => .cons (.int n) (Reps.of_ints ns)
theorem Reps.strs : ∀ {ns : List Str} {vs : List V}, Reps K H μ (ns.map D.str) vs → vs = ns.map V.str
  | [], _, .nil => rfl
  | n :: ns, _, .cons h t => by cases h; rw [Reps.strs t]; rfl
theorem Reps.rep {ds : List D} {vs : List V} (r : Reps K H μ ds vs) : ∀ k : Nat, Reps K H μ (List.replicate k ds).flatten (List.replicate k vs).flatten
  | 0 => .nil
  | k + 1 => by rw [List.replicate_succ, List.replicate_succ, List.flatten_cons, List.flatten_cons]; exact r.append (Reps.rep r k)
/-- how an object's description is carried on -/
theorem RepO.mono (e : Ext K H μ H' μ') {a : Addr} {o : Ob} (h : RepO K H μ a o) (k : isFix (some o) = false → H' a = H a) : RepO K H' μ' a o := by
  cases o with
  | lst ds => obtain ⟨vs, h1, h2⟩ := h; exact ⟨vs, (k rfl).trans h1, h2.mono e⟩
  | fix ds => obtain ⟨vs, h1, h2⟩ := h; exact ⟨vs, h1.mono e, h2.mono e⟩
  | ins C fs => obtain ⟨dx, gs, h1, h2⟩ := h; exact ⟨dx, gs, (k rfl).trans h1, h2.mono e⟩
  | dic t ep kvs => obtain ⟨xs, h1, h2⟩ := h; exact ⟨xs, (k rfl).trans h1, h2.mono e⟩
  | dkK kvs => obtain ⟨xs, h1, h2⟩ := h; exact ⟨xs, (k rfl).trans h1, RepDK.mono e h2⟩
theorem RepO.there {a : Addr} {o : Ob} (h : RepO K H μ a o) (k : isFix (some o) = false) : ∃ u, H a = some u ∧ Mut (some u) := by
  cases o with
  | lst ds => obtain ⟨vs, h1, h2⟩ := h; exact ⟨_, h1, trivial⟩
  | fix ds => cases k
  | ins C fs => obtain ⟨dx, gs, h1, h2⟩ := h; exact ⟨_, h1, trivial⟩
  | dic t ep kvs => obtain ⟨xs, h1, h2⟩ := h; exact ⟨_, h1, trivial⟩
  | dkK kvs => obtain ⟨xs, h1, h2⟩ := h; exact ⟨_, h1, trivial⟩
/-- a fresh place -/
theorem Ext.fresh {p : Addr} {o : HO} {μ' : List Addr} (hp : H p = none) (hm : ∀ (i : Nat) a, μ[i]? = some a → μ'[i]? = some a) : Ext K H μ (upd H p o) μ' := by
  refine ⟨hm, fun a xs h => ?_, fun a ob u h => ?_, fun a fs h => by rw [upd_ne (ne_of_none h hp)]; exact h⟩
  · rcases h with (h | ⟨u, h⟩) | h
    · exact .inl (.inl (by rw [upd_ne (ne_of_none h hp)]; exact h))
    · exact .inl (.inr ⟨u, by rw [upd_ne (ne_of_none h hp)]; exact h⟩)
    · exact .inr h
  · rw [upd_ne (ne_of_none h hp)]; exact h
/-- a thing that changes is written -/
theorem Ext.write {p : Addr} {o u : HO} (hp : H p = some u) (mu : Mut (some u)) : Ext K H μ (upd H p o) μ := by
  have ne : ∀ a v, H a = some v → ¬ Mut (some v) → a ≠ p := fun a v h n e => by rw [e, hp] at h; cases h; exact n mu
  refine ⟨fun _ _ h => h, fun a xs h => ?_, fun a ob u h => ?_, fun a fs h => by rw [upd_ne (ne a _ h (fun z => z))]; exact h⟩
  · rcases h with (h | ⟨u, h⟩) | h
    · exact .inl (.inl (by rw [upd_ne (ne a _ h (fun z => z))]; exact h))
    · exact .inl (.inr ⟨u, by rw [upd_ne (ne a _ h (fun z => z))]; exact h⟩)
    · exact .inr h
  · rw [upd_ne (ne a _ h (fun z => z))]; exact h
/-- a new tuple (or any thing of which the store does not tell) -/
theorem Sim.tup {p : Addr} {o : HO} (s : Sim K H μ S) (hp : H p = none) : Sim K (upd H p o) μ S := by
  refine ⟨s.len, s.inj, fun i a ob h1 h2 => (s.ob i a ob h1 h2).mono (Ext.fresh hp fun _ _ h => h) fun hf => ?_⟩
  obtain ⟨u, h, _⟩ := (s.ob i a ob h1 h2).there hf
  exact upd_ne (ne_of_none h hp)
theorem get_snoc {α : Type} {l : List α} {x y : α} {i : Nat} (h : (l ++ [x])[i]? = some y) : l[i]? = some y ∨ (i = l.length ∧ x = y) := by
  rw [List.getElem?_append] at h
  split at h
  · exact .inl h
  · rename_i hn
    have : i - l.length = 0 := by
      cases e : i - l.length with
      | zero => rfl
      | succ k => rw [e] at h; simp at h
    rw [this] at h
    exact .inr ⟨by omega, by simpa using h⟩
theorem get_old {α : Type} {l r : List α} {x : α} {i : Nat} (h : l[i]? = some x) : (l ++ r)[i]? = some x := by
  rw [List.getElem?_append_left (List.getElem?_eq_some_iff.mp h).1]; exact h
/-- a new object -/
theorem Sim.new {p : Addr} {o : HO} {ob : Ob} (s : Sim K H μ S) (hp : H p = none) (r : RepO K (upd H p o) (μ ++ [p]) p ob) : Sim K (upd H p o) (μ ++ [p]) (S ++ [ob]) := by
  have hp' : H p = Option.none := hp
  refine ⟨by simp [s.len], fun i j a h1 h2 f1 f2 => ?_, fun i a ob' h1 h2 => ?_⟩
  · rcases get_snoc h1 with h1 | ⟨h1, e1⟩ <;> rcases get_snoc h2 with h2 | ⟨h2, e2⟩
    · have l1 : i < S.length := by rw [← s.len]; exact (List.getElem?_eq_some_iff.mp h1).1
      have l2 : j < S.length := by rw [← s.len]; exact (List.getElem?_eq_some_iff.mp h2).1
      rw [List.getElem?_append_left l1] at f1
      rw [List.getElem?_append_left l2] at f2
      exact s.inj i j a h1 h2 f1 f2
    · have l1 : i < S.length := by rw [← s.len]; exact (List.getElem?_eq_some_iff.mp h1).1
      rw [List.getElem?_append_left l1] at f1
      obtain ⟨ob1, e⟩ : ∃ ob1, S[i]? = some ob1 := ⟨S[i], List.getElem?_eq_getElem l1⟩
      rw [e] at f1
      obtain ⟨u, hu, _⟩ := (s.ob i a ob1 h1 e).there f1
      rw [← e2, hp] at hu; cases hu
    · have l2 : j < S.length := by rw [← s.len]; exact (List.getElem?_eq_some_iff.mp h2).1
      rw [List.getElem?_append_left l2] at f2
      obtain ⟨ob1, e⟩ : ∃ ob1, S[j]? = some ob1 := ⟨S[j], List.getElem?_eq_getElem l2⟩
      rw [e] at f2
      obtain ⟨u, hu, _⟩ := (s.ob j a ob1 h2 e).there f2
      rw [← e1, hp] at hu; cases hu
    · omega
  · rcases get_snoc h1 with h1 | ⟨h1, e1⟩
    · have l1 : i < S.length := by rw [← s.len]; exact (List.getElem?_eq_some_iff.mp h1).1
      rw [List.getElem?_append_left l1] at h2
      have q := s.ob i a ob' h1 h2
      refine q.mono (Ext.fresh hp fun _ _ h => get_old h) fun hf => ?_
      obtain ⟨u, hu, _⟩ := q.there hf
      exact upd_ne (ne_of_none hu hp)
    · have : (S ++ [ob])[i]? = some ob := by rw [h1, s.len]; simp
      rw [this] at h2; cases h2
      subst e1
      exact r
theorem Ext.new {p : Addr} {o : HO} (hp : H p = none) : Ext K H μ (upd H p o) (μ ++ [p]) := Ext.fresh hp fun _ _ h => get_old h
/-- an object written -/
theorem Sim.write {i : Nat} {a : Addr} {o : HO} {ob ob' : Ob} (s : Sim K H μ S) (hi : μ[i]? = some a) (hs : S[i]? = some ob) (f : isFix (some ob) = false) (f' : isFix (some ob') = false) (r : RepO K (upd H a o) μ a ob') : Sim K (upd H a o) μ (S.set i ob') := by
  have il : i < S.length := (List.getElem?_eq_some_iff.mp hs).1
  obtain ⟨u, hu, mu⟩ := (s.ob i a ob hi hs).there f
  have fx : ∀ j, isFix (S.set i ob')[j]? = isFix S[j]? := fun j => by
    by_cases e : j = i
    · subst e; rw [List.getElem?_set_self il, hs, f, f']
    · rw [List.getElem?_set_ne (Ne.symm e)]
  refine ⟨by simp [s.len], fun j k b h1 h2 f1 f2 => ?_, fun j b ob1 h1 h2 => ?_⟩
  · rw [fx] at f1 f2
    exact s.inj j k b h1 h2 f1 f2
  · by_cases e : j = i
    · subst e
      rw [List.getElem?_set_self il] at h2
      cases h2
      rw [hi] at h1; cases h1
      exact r
    · rw [List.getElem?_set_ne (Ne.symm e)] at h2
      have q := s.ob j b ob1 h1 h2
      refine q.mono (Ext.write hu mu) fun hf => upd_ne fun z => e ?_
      subst z
      exact s.inj j i b h1 hi (by rw [h2]; exact hf) (by rw [hs]; exact f)
theorem Ext.writeAt {i : Nat} {a : Addr} {o : HO} {ob : Ob} (s : Sim K H μ S) (hi : μ[i]? = some a) (hs : S[i]? = some ob) (f : isFix (some ob) = false) : Ext K H μ (upd H a o) μ := by
  obtain ⟨u, hu, mu⟩ := (s.ob i a ob hi hs).there f
  exact Ext.write hu mu
end

/-! ### readings over trees -/
def OkV (K : PySem.W.Frag) (H : Hp) (μ : List Addr) (R : RD) (Q : VK) : Prop := ∀ d S' v μ' H', R d S' → Ext K H μ H' μ' → Sim K H' μ' S' → Rep K H' μ' d v → Q v H'
def OkB (K : PySem.W.Frag) (H : Hp) (μ : List Addr) (R : Bool → Sto → Prop) (Q : Bool → Hp → Prop) : Prop := ∀ b S' μ' H', R b S' → Ext K H μ H' μ' → Sim K H' μ' S' → Q b H'
def OkA (K : PySem.W.Frag) (H : Hp) (μ : List Addr) (n : Nat) (R : List D → Sto → Prop) (Q : List V → Hp → Prop) : Prop := ∀ ds S' vs μ' H', ds.length = n → R ds S' → Ext K H μ H' μ' → Sim K H' μ' S' → Reps K H' μ' ds vs → Q vs H'
def OkX (K : PySem.W.Frag) (H : Hp) (μ : List Addr) (R : RX) (E : XK) : Prop := ∀ x S' cls dx μ' H', R x S' → Ext K H μ H' μ' → Sim K H' μ' S' → RepX K H' μ' x cls dx → E cls dx H'
section
variable {K : PySem.W.Frag} {H H' : Hp} {μ μ' : List Addr}
theorem OkV.ext {R : RD} {Q : VK} (o : OkV K H μ R Q) (e : Ext K H μ H' μ') : OkV K H' μ' R Q := fun d S' v μ2 H2 h e2 => o d S' v μ2 H2 h (e.trans e2)
theorem OkB.ext {R : Bool → Sto → Prop} {Q : Bool → Hp → Prop} (o : OkB K H μ R Q) (e : Ext K H μ H' μ') : OkB K H' μ' R Q := fun d S' μ2 H2 h e2 => o d S' μ2 H2 h (e.trans e2)
theorem OkA.ext {n : Nat} {R : List D → Sto → Prop} {Q : List V → Hp → Prop} (o : OkA K H μ n R Q) (e : Ext K H μ H' μ') : OkA K H' μ' n R Q := fun d S' v μ2 H2 l h e2 => o d S' v μ2 H2 l h (e.trans e2)
theorem OkX.ext {R : RX} {E : XK} (o : OkX K H μ R E) (e : Ext K H μ H' μ') : OkX K H' μ' R E := fun d S' c dx μ2 H2 h e2 => o d S' c dx μ2 H2 h (e.trans e2)
end
abbrev wAt (W : WX) (σ : L2.St) : XK := fun c d H => W c d σ H
def dE (K : PySem.W.Frag) (W : WX) (t : TD) : TE := fun σ H Q => ∃ ρ μ S R Rx, At K σ H ρ μ S ∧ t Rx ρ S R ∧ OkV K H μ R Q ∧ OkX K H μ Rx (wAt W σ)
def dT (K : PySem.W.Frag) (W : WX) (t : TDT) : TT := fun σ H Q => ∃ ρ μ S R Rx, At K σ H ρ μ S ∧ t Rx ρ S R ∧ OkB K H μ R Q ∧ OkX K H μ Rx (wAt W σ)
def dA (K : PySem.W.Frag) (W : WX) (n : Nat) (t : TDA) : TA := fun σ H Q => ∃ ρ μ S R Rx, At K σ H ρ μ S ∧ t Rx ρ S R ∧ OkA K H μ n R Q ∧ OkX K H μ Rx (wAt W σ)
structure EndsOk (K : PySem.W.Frag) (W : WX) (H : Hp) (μ : List Addr) (E : DEnds) (Z : Ends) : Prop where
  nx : ∀ ρ' S' σ' μ' H', E.nx ρ' S' → Ext K H μ H' μ' → At K σ' H' ρ' μ' S' → Z.nx σ' H'
  rt : ∀ d S' v μ' H', E.rt d S' → Ext K H μ H' μ' → Sim K H' μ' S' → Rep K H' μ' d v → Z.rt v H'
  bk : ∀ ρ' S' σ' μ' H', E.bk ρ' S' → Ext K H μ H' μ' → At K σ' H' ρ' μ' S' → Z.bk σ' H'
  ct : ∀ ρ' S' σ' μ' H', E.ct ρ' S' → Ext K H μ H' μ' → At K σ' H' ρ' μ' S' → Z.ct σ' H'
  ex : ∀ x ρ' S' cls dx σ' μ' H', E.ex x ρ' S' → Ext K H μ H' μ' → At K σ' H' ρ' μ' S' → RepX K H' μ' x cls dx → W cls dx σ' H'
def dS (K : PySem.W.Frag) (W : WX) (t : TDS) : TS := fun Z σ H => ∃ ρ μ S E, At K σ H ρ μ S ∧ t E ρ S ∧ EndsOk K W H μ E Z
def dSp (K : PySem.W.Frag) (n : Nat) (sp : DSp) : Sp := fun vs H Q E => ∃ ds μ S R Rx, Sim K H μ S ∧ Reps K H μ ds vs ∧ ds.length = n ∧ sp ds S R Rx ∧ OkV K H μ R Q ∧ OkX K H μ Rx E
theorem EndsOk.ext {K : PySem.W.Frag} {W : WX} {H H' : Hp} {μ μ' : List Addr} {E : DEnds} {Z : Ends} (k : EndsOk K W H μ E Z) (e : Ext K H μ H' μ') : EndsOk K W H' μ' E Z :=
  ⟨fun _ _ _ _ _ h e2 => k.nx _ _ _ _ _ h (e.trans e2), fun _ _ _ _ _ h e2 => k.rt _ _ _ _ _ h (e.trans e2), fun _ _ _ _ _ h e2 => k.bk _ _ _ _ _ h (e.trans e2),
   fun _ _ _ _ _ h e2 => k.ct _ _ _ _ _ h (e.trans e2), fun _ _ _ _ _ _ _ _ h e2 => k.ex _ _ _ _ _ _ _ _ h (e.trans e2)⟩
/-- what is wanted of an exception within an expression of a statement -/
theorem EndsOk.x {K : PySem.W.Frag} {W : WX} {H : Hp} {μ : List Addr} {E : DEnds} {Z : Ends} {σ : L2.St} {ρ : Ev} (k : EndsOk K W H μ E Z) (r : RepE K H μ ρ σ) : OkX K H μ (fun x S => E.ex x ρ S) (wAt W σ) :=
  fun x S' cls dx μ' H' h e s rx => k.ex x ρ S' cls dx σ μ' H' h e ⟨r.mono e, s⟩ rx

theorem _root_.L2.PE.imp {X : Cx} {e : Expr} {t t' : TE} (h : PE X e t) (i : ∀ σ H Q, t' σ H Q → t σ H Q) : PE X e t' := ⟨fun pins s σ H Q I q => h.run pins s σ H Q I (i σ H Q q)⟩
theorem _root_.L2.PT.imp {X : Cx} {e : Expr} {t t' : TT} (h : PT X e t) (i : ∀ σ H Q, t' σ H Q → t σ H Q) : PT X e t' := ⟨fun pins s σ H Q I q => h.run pins s σ H Q I (i σ H Q q)⟩
theorem _root_.L2.PA.imp {X : Cx} {e : List Expr} {t t' : TA} (h : PA X e t) (i : ∀ σ H Q, t' σ H Q → t σ H Q) : PA X e t' := ⟨fun pos pins s σ H Q I q => h.run pos pins s σ H Q I (i σ H Q q)⟩
theorem _root_.L2.PS.imp {X : Cx} {e : Stmt} {t t' : TS} (h : PS X e t) (i : ∀ D σ H, t' D σ H → t D σ H) : PS X e t' := ⟨fun pins s σ H D I q => h.run pins s σ H D I (i D σ H q)⟩
theorem _root_.L2.PSs.imp {X : Cx} {e : List Stmt} {t t' : TS} (h : PSs X e t) (i : ∀ D σ H, t' D σ H → t D σ H) : PSs X e t' := ⟨fun pins s σ H D I q => h.run pins s σ H D I (i D σ H q)⟩

/-! ### the store's lists, looked at (what they unfold to is told by lst_at, fix_at, mlst_at alone) -/
inductive lstAt (n : Nat) (S : Sto) (k : List D → Prop) : Prop
  | mk (xs : List D) (h : S[n]? = some (.lst xs) ∨ S[n]? = some (.fix xs)) (hk : k xs)
inductive mlstAt (n : Nat) (S : Sto) (k : List D → Prop) : Prop
  | mk (xs : List D) (h : S[n]? = some (.lst xs)) (hk : k xs)
inductive iterAt (n : Nat) (S : Sto) (k : List D → (Sto → Prop) → Prop) : Prop
  | lst (xs : List D) (h : S[n]? = some (.lst xs)) (hk : k xs fun S => S[n]? = some (.lst xs))
  | fix (xs : List D) (h : S[n]? = some (.fix xs)) (hk : k xs fun S => S[n]? = some (.fix xs))
section
variable {n : Nat} {S : Sto} {xs : List D} {k : List D → Prop} {j : List D → (Sto → Prop) → Prop}
theorem lst_at (h : S[n]? = some (.lst xs)) (hk : k xs) : lstAt n S k := .mk xs (.inl h) hk
theorem fix_at (h : S[n]? = some (.fix xs)) (hk : k xs) : lstAt n S k := .mk xs (.inr h) hk
theorem mlst_at (h : S[n]? = some (.lst xs)) (hk : k xs) : mlstAt n S k := .mk xs h hk
theorem iter_at (h : S[n]? = some (.lst xs)) (hk : j xs fun S => S[n]? = some (.lst xs)) : iterAt n S j := .lst xs h hk
theorem iter_fix (h : S[n]? = some (.fix xs)) (hk : j xs fun S => S[n]? = some (.fix xs)) : iterAt n S j := .fix xs h hk
theorem lst_inv (h : lstAt n S k) : ∃ xs, (S[n]? = some (.lst xs) ∨ S[n]? = some (.fix xs)) ∧ k xs := by
  cases h with | mk xs h hk => exact ⟨xs, h, hk⟩
theorem mlst_inv (h : mlstAt n S k) : ∃ xs, S[n]? = some (.lst xs) ∧ k xs := by
  cases h with | mk xs h hk => exact ⟨xs, h, hk⟩
theorem iter_inv (h : iterAt n S j) : ∃ xs, (S[n]? = some (.lst xs) ∧ j xs fun S => S[n]? = some (.lst xs)) ∨ (S[n]? = some (.fix xs) ∧ j xs fun S => S[n]? = some (.fix xs)) := by
  cases h with
  | lst xs h hk => exact ⟨xs, .inl ⟨h, hk⟩⟩
  | fix xs h hk => exact ⟨xs, .inr ⟨h, hk⟩⟩
theorem Sim.lstR {K : PySem.W.Frag} {H : Hp} {μ : List Addr} {p : Addr} (s : Sim K H μ S) (h : μ[n]? = some p) (e : S[n]? = some (.lst xs) ∨ S[n]? = some (.fix xs)) : ∃ vs, SqL K H p vs ∧ Reps K H μ xs vs := by
  rcases e with e | e
  · obtain ⟨vs, hv, q⟩ := s.ob n p _ h e
    exact ⟨vs, SqL.of hv, q⟩
  · obtain ⟨vs, hv, q⟩ := s.ob n p _ h e
    exact ⟨vs, hv.sql, q⟩
end
/-- the item at a place -/
inductive ixAt (xs : List D) (i : Int) (k : D → Prop) : Prop
  | mk (d : D) (h : L2.atI xs i = some d) (hk : k d)
theorem ix_at {xs : List D} {i : Int} {k : D → Prop} {d : D} (h : L2.atI xs i = some d) (hk : k d) : ixAt xs i k := .mk d h hk
theorem ix_inv {xs : List D} {i : Int} {k : D → Prop} (h : ixAt xs i k) : ∃ d, L2.atI xs i = some d ∧ k d := by
  cases h with | mk d h hk => exact ⟨d, h, hk⟩
end DL
namespace L2
open PySem PySem.Spec PyProof.Rows
theorem tuple_mul1 (l : Addr) (items : Array Value) (n : Nat) (dd : Option Addr) (sl : Array (Option Value)) (x : Int) (u : Tok) (c0 : (decide (x < -(2 ^ 63)) || decide (x ≥ 2 ^ 63)) = false) (c1 : (items.isEmpty || x == 1) = true) :
    Meets (Builtin.«tuple.__mul__» ⟨[.ref l, .int x u], []⟩) (fun _ R s => s.heap.get? l = some { cls := .type "tuple", dict := dd, data := .seq items n, slots := sl } ∧
      R (.ok (.ret (Value.ref l))) s) :=
  .of_wp fun prog w A R s h => by
    obtain ⟨hp, g, d, tk, os⟩ := s
    obtain ⟨hl, h⟩ := h
    have f1 := AutoSeq1.idx_int
    wp_walk using wpAny_loadPart' hl
    repeat (first
      | (refine wpAny_ite_false (decide_eq_false (by rw [c0]; exact Bool.false_ne_true)) ?_; wp_walk using wpAny_loadPart' hl)
      | (refine wpAny_ite_true (decide_eq_true c1) ?_; wp_walk using wpAny_loadPart' hl))
    exact ⟨_, rfl, h⟩
theorem tuple_mul0 (l : Addr) (items : Array Value) (n : Nat) (dd : Option Addr) (sl : Array (Option Value)) (x : Int) (u : Tok) (c0 : (decide (x < -(2 ^ 63)) || decide (x ≥ 2 ^ 63)) = false) (c1 : (items.isEmpty || x == 1) = false) (c2 : (decide (x ≤ 0) || items.isEmpty) = true) :
    Meets (Builtin.«tuple.__mul__» ⟨[.ref l, .int x u], []⟩) (fun _ R s => s.heap.get? l = some { cls := .type "tuple", dict := dd, data := .seq items n, slots := sl } ∧
      R (.ok (.ret (Value.ref s.heap.objs.size))) { s with heap := s.heap.push { cls := Value.type "tuple", data := Data.seq #[] }, toks := s.toks }) :=
  .of_wp fun prog w A R s h => by
    obtain ⟨hp, g, d, tk, os⟩ := s
    obtain ⟨hl, h⟩ := h
    have f1 := AutoSeq1.idx_int
    wp_walk using wpAny_loadPart' hl
    repeat (first
      | (refine wpAny_ite_false (decide_eq_false (by rw [c0]; exact Bool.false_ne_true)) ?_; wp_walk using wpAny_loadPart' hl)
      | (refine wpAny_ite_false (decide_eq_false (by rw [c1]; exact Bool.false_ne_true)) ?_; wp_walk using wpAny_loadPart' hl)
      | (refine wpAny_ite_true (decide_eq_true c2) ?_; wp_walk using wpAny_loadPart' hl))
    exact ⟨_, rfl, h⟩
def rRepA (K : PySem.W.Frag) : R2 := fun x y H Q => ∃ l k xs, x = .ref l ∧ y = .int k ∧ SqT K H l xs ∧ -(2 ^ 63) ≤ k ∧ k ≤ 1000 ∧ xs.length ≤ 1000 ∧ ((xs = [] ∨ k = 1) → Q (.ref l) H) ∧ (xs ≠ [] → k ≠ 1 → ∀ p, H p = none → Q (.ref p) (upd H p (.tup (List.replicate k.toNat xs).flatten)))
section
variable {X : Cx}
theorem op_repA : OpR X (binaryOp .Mult) (rRepA X.K) := by
  intro pins s σ H x y v u Q I rx ry h
  obtain ⟨l, k, xs, rfl, rfl, hT, h0, h2, hz, qa, qb⟩ := h
  rcases Classical.em (xs ≠ [] ∧ 2 ≤ k) with ⟨hne, h1⟩ | hno
  · exact op_repT pins s σ H _ _ v u Q I rx ry ⟨l, k, xs, rfl, rfl, hT, hne, h1, h2, hz, qb hne (by omega)⟩
  cases rx
  obtain ⟨t, rfl⟩ := ry
  obtain ⟨its, r, ⟨⟨cls, dd, data, sl⟩, ho, hc, n, hd⟩, hs⟩ := I.tuple hT
  simp only at hc hd
  subst hc hd
  have hle : its.length = xs.length := r.length.symm
  have c0 : (decide (k < -(2 ^ 63)) || decide (k ≥ 2 ^ 63)) = false := by
    rw [decide_eq_false (by omega), decide_eq_false (by omega)] <;> rfl
  have emp : its.toArray.isEmpty = decide (xs = []) := by
    cases its with
    | nil =>
      have : xs = [] := List.eq_nil_of_length_eq_zero hle.symm
      rw [this] <;> rfl
    | cons a b =>
      have : xs ≠ [] := fun e => by rw [e] at hle; simp at hle
      rw [decide_eq_false this] <;> rfl
  rcases Classical.em (xs = [] ∨ k = 1) with hc | hc
  · have c1 : (its.toArray.isEmpty || k == 1) = true := by
      rw [emp]
      rcases hc with hc | hc
      · rw [decide_eq_true hc] <;> rfl
      · rw [hc, Bool.or_eq_true] <;> exact .inr rfl
    refine wpAny_binaryOp_repeat_ref (T := "tuple") (U := "int") (by decide) ⟨_, ho, rfl⟩ (fun s' => typeIs_int s' k t) noFill_tuple_mul F.fills_int_mul F.slot_int_rmul repeat_tuple F.slot_int_index.lookup
      (call_meets F.slot_int_rmul (typeIs_int s k t) F.entry_int_rmul (F.args_int_rmul_2 _ _) (int_rmul_tuple k t l its.toArray n dd sl)
        ⟨ho, rfl, ⟨_, ho, rfl⟩, call_meets F.slot_tuple_mul ⟨_, ho, rfl⟩ F.entry_tuple_mul (F.args_tuple_mul_2 _ _) (tuple_mul1 l its.toArray n dd sl k t c0 c1) ⟨ho, ?_⟩⟩)
    exact ⟨.ref l, H, I, rfl, qa hc⟩
  · have hne : xs ≠ [] := fun e => hc (.inl e)
    have hk1 : k ≠ 1 := fun e => hc (.inr e)
    have hk0 : k ≤ 0 := by
      rcases Classical.em (2 ≤ k) with z | z
      · exact absurd ⟨hne, z⟩ hno
      · omega
    have c1 : (its.toArray.isEmpty || k == 1) = false := by
      rw [emp, decide_eq_false hne, Bool.false_or]
      exact beq_eq_false_iff_ne.mpr hk1
    have c2 : (decide (k ≤ 0) || its.toArray.isEmpty) = true := by
      rw [decide_eq_true hk0] <;> rfl
    refine wpAny_binaryOp_repeat_ref (T := "tuple") (U := "int") (by decide) ⟨_, ho, rfl⟩ (fun s' => typeIs_int s' k t) noFill_tuple_mul F.fills_int_mul F.slot_int_rmul repeat_tuple F.slot_int_index.lookup
      (call_meets F.slot_int_rmul (typeIs_int s k t) F.entry_int_rmul (F.args_int_rmul_2 _ _) (int_rmul_tuple k t l its.toArray n dd sl)
        ⟨ho, rfl, ⟨_, ho, rfl⟩, call_meets F.slot_tuple_mul ⟨_, ho, rfl⟩ F.entry_tuple_mul (F.args_tuple_mul_2 _ _) (tuple_mul0 l its.toArray n dd sl k t c0 c1 c2) ⟨ho, ?_⟩⟩)
    have e0 : (List.replicate k.toNat xs).flatten = [] := by
      have : k.toNat = 0 := by omega
      rw [this] <;> rfl
    have q := qb hne hk1 _ (I.hok.fresh (Nat.le_refl _))
    rw [e0] at q
    exact ⟨.ref s.heap.objs.size, _, I.laid (t' := s.toks) (o := .tup []) (fun b ob q => Heap.get?_push_of_some _ q) (Nat.le_refl _) ⟨Nat.zero_le _, [], .nil, IsTup.new _ _⟩, rfl, q⟩
theorem op_ltS : OpR X (compareOp .Lt) (fun x y H Q => rI0 (fun i j => .bl (decide (i < j))) x y H Q ∨ ∃ i j, x = .str i ∧ y = .str j ∧ Q (.bl (decide (i.cps.toList < j.cps.toList))) H) := op_lt.or op_lt_str
/-- list(a text) -/
theorem call_list_sign (hc : X.calm = true) : CallR X (.type "list") (fun xs H Q => ∃ z : Str, xs = [.str z] ∧ z.cps.size ≤ sizeLine ∧ ∀ l, H l = none → Q (.ref l) (upd H l (.lst (z.cps.toList.map fun c => V.str ⟨#[c]⟩)))) := by
  intro pins s σ H xs us Q I r h
  obtain ⟨z, rfl, hz, q⟩ := h
  obtain ⟨u, rfl, rx⟩ := vals1 r
  obtain ⟨t, rfl⟩ := rx
  refine call_list_str (hn := hz) (I.ok.hd hc) z t fun h' tk acc c' hk e hi => ?_
  have hv : Vals (z.cps.toList.map fun c => V.str ⟨#[c]⟩) acc.toList := by
    obtain ⟨h1, h2⟩ := hi
    refine vals_of_at (by rw [List.length_map, Array.length_toList, Array.length_toList, h1]) fun i x y hx hy => ?_
    rw [Array.getElem?_toList] at hy
    obtain ⟨c, u, hc', rfl⟩ := h2 i y hy
    rw [List.getElem?_map, Array.getElem?_toList, hc'] at hx
    cases hx
    exact ⟨u, rfl⟩
  refine ⟨.ref s.heap.objs.size, _, I.laid (t' := tk) (o := .lst (z.cps.toList.map fun c => V.str ⟨#[c]⟩)) hk (Nat.le_refl _) ⟨by rw [List.length_map, Array.length_toList]; exact hz, acc.toList, c', hv, by rw [Array.toArray_toList]; exact e⟩, rfl, q _ (I.hok.fresh (Nat.le_refl _))⟩
end
end L2
namespace DL
open PySem PySem.Spec PyProof.Rows L2
variable [PWd]

abbrev OD := D → D → Sto → RD → Prop
abbrev OU := D → Sto → RD → Prop
abbrev OC := List D → Sto → RD → Prop
/-! ### readings -/
def eVar (i : Nat) : TD := fun _ ρ S R => match ρ[i]? with
  | some (some d) => R d S
  | _ => False
def eC (d : D) : TD := fun _ _ S R => R d S
def e1 (f : OU) (ta : TD) : TD := fun Rx ρ S R => ta Rx ρ S fun x S1 => f x S1 R
def e2 (f : OD) (ta tb : TD) : TD := fun Rx ρ S R => ta Rx ρ S fun x S1 => tb Rx ρ S1 fun y S2 => f x y S2 R
def aNil : TDA := fun _ _ S R => R [] S
def aCons (ta : TD) (tr : TDA) : TDA := fun Rx ρ S R => ta Rx ρ S fun x S1 => tr Rx ρ S1 fun xs S2 => R (x :: xs) S2
def eTup (t : TDA) : TD := fun Rx ρ S R => t Rx ρ S fun xs S1 => xs.length ≤ sizeLine ∧ R (.tup xs) S1
def eLst (t : TDA) : TD := fun Rx ρ S R => t Rx ρ S fun xs S1 => xs.length ≤ sizeLine ∧ R (.ref S1.length) (S1 ++ [.lst xs])
def eB (f : OC) (t : TDA) : TD := fun Rx ρ S R => t Rx ρ S fun xs S1 => f xs S1 R
/-- a call, held shut -/
inductive Cal (sp : DSp) (xs : List D) (S : Sto) (R : RD) (Rx : RX) : Prop
  | mk (h : sp xs S R Rx)
theorem Cal.out {sp : DSp} {xs : List D} {S : Sto} {R : RD} {Rx : RX} (h : Cal sp xs S R Rx) : sp xs S R Rx := by
  cases h with | mk h => exact h
def eCall (sp : DSp) (t : TDA) : TD := fun Rx ρ S R => t Rx ρ S fun xs S1 => Cal sp xs S1 R Rx
def pick {α : Type} (π : List Nat) (l : List α) : List α := π.filterMap fun i => l[i]?
def eCallK (sp : DSp) (π : List Nat) (t tk : TDA) : TD := fun Rx ρ S R => t Rx ρ S fun xs S1 => tk Rx ρ S1 fun zs S2 => Cal sp (pick π (xs ++ zs)) S2 R Rx
/-- the truth of a value -/
def truD (d : D) (S : Sto) (R : Bool → Prop) : Prop := match d with
  | .non => R false
  | .bl b => R b
  | .int i => R (i != 0)
  | .str x => x.length ≤ sizeLine ∧ R ((x.length : Int) != 0)
  | .tup xs => R (!xs.isEmpty)
  | .ref n => lstAt n S fun xs => R (!xs.isEmpty)
  | .fn _ => False
def tTru (t : TD) : TDT := fun Rx ρ S R => t Rx ρ S fun d S1 => truD d S1 fun b => R b S1
def tAndD (t u : TDT) : TDT := fun Rx ρ S R => t Rx ρ S fun b S1 => ift b (u Rx ρ S1 R) (R false S1)
def tOrD (t u : TDT) : TDT := fun Rx ρ S R => t Rx ρ S fun b S1 => ift b (R true S1) (u Rx ρ S1 R)
def tNotD (t : TDT) : TDT := fun Rx ρ S R => t Rx ρ S fun b S1 => R (!b) S1
def eAnd (ta tb : TD) : TD := fun Rx ρ S R => ta Rx ρ S fun x S1 => truD x S1 fun b => ift b (tb Rx ρ S1 R) (R x S1)
def eOr (ta tb : TD) : TD := fun Rx ρ S R => ta Rx ρ S fun x S1 => truD x S1 fun b => ift b (R x S1) (tb Rx ρ S1 R)
def eNot (ta : TD) : TD := fun Rx ρ S R => ta Rx ρ S fun x S1 => truD x S1 fun b => R (.bl (!b)) S1
def eIf (c : TDT) (ta tb : TD) : TD := fun Rx ρ S R => c Rx ρ S fun b S1 => ift b (ta Rx ρ S1 R) (tb Rx ρ S1 R)

section
variable {X : Cx} {W : WX} {a b c : Expr} {ta tb : TD} {tc td : TDT} {pos : Pos} {es rest : List Expr} {tr : TDA}

theorem de_var (i : Nat) {x : Str} {pos : Pos} (hN : X.N[i]? = some x := by rfl) (hv : Vis X.env.scope x := by first | exact Or.inl rfl | exact Or.inr (Or.inl rfl) | exact Or.inr (Or.inr rfl)) (hd : (x == ("__debug__" : Str)) = false := by decide)
    (hcd : (x == ("__classdict__" : Str)) = false := by decide) : PE X (.Name x pos) (dE X.K W (eVar i)) :=
  (pe_var hN hv hd hcd).imp fun σ H Q ⟨ρ, μ, S, R, Rx, at_, h, ok, ox⟩ => by
    unfold eVar at h
    split at h
    · rename_i d e
      obtain ⟨v, h1, h2⟩ := at_.env.at_ i d e
      exact ⟨v, h1, ok _ _ _ _ _ h Ext.refl at_.sim h2⟩
    · exact h.elim
theorem de_C {v : V} {d : D} {e : Expr} (he : PE X e (tC v)) (hr : ∀ H μ, Rep X.K H μ d v) : PE X e (dE X.K W (eC d)) :=
  he.imp fun σ H Q ⟨ρ, μ, S, R, Rx, at_, h, ok, ox⟩ => ok _ _ _ _ _ h Ext.refl at_.sim (hr _ _)
theorem de_int {i j pos} : PE X (.Constant (.int i) j pos) (dE X.K W (eC (.int i))) := de_C pe_int fun _ _ => .int i
theorem de_bl {i j pos} : PE X (.Constant (.bool i) j pos) (dE X.K W (eC (.bl i))) := de_C pe_bl fun _ _ => .bl i
theorem de_non {j pos} : PE X (.Constant .none j pos) (dE X.K W (eC .non)) := de_C pe_non fun _ _ => .non
theorem de_str {i j pos} : PE X (.Constant (.str i) j pos) (dE X.K W (eC (.str i))) := de_C pe_str fun _ _ => .str i
/-- a constant of the module -/
theorem de_glob {x : Str} {v : V} {u : Value} {d : D} {pos : Pos} (hm : X.mg x = some u) (r : RelV v u) (hr : ∀ H μ, Rep X.K H μ d v) (hg : Gl X x := by rfl) (hd : (x == ("__debug__" : Str)) = false := by decide) : PE X (.Name x pos) (dE X.K W (eC d)) :=
  de_C (pe_glob hg hm r hd) hr

/-! ### two values -/
def Br2 (K : PySem.W.Frag) (r : R2) (f : OD) : Prop := ∀ x y S R vx vy μ H Q, Sim K H μ S → Rep K H μ x vx → Rep K H μ y vy → f x y S R → OkV K H μ R Q → r vx vy H Q
def Br1 (K : PySem.W.Frag) (r : V → Hp → VK → Prop) (f : OU) : Prop := ∀ x S R vx μ H Q, Sim K H μ S → Rep K H μ x vx → f x S R → OkV K H μ R Q → r vx H Q
def BrC (K : PySem.W.Frag) (r : List V → Hp → VK → Prop) (f : OC) : Prop := ∀ xs S R vs μ H Q, Sim K H μ S → Reps K H μ xs vs → f xs S R → OkV K H μ R Q → r vs H Q
theorem seq2 {K : PySem.W.Frag} {r : R2} {f : OD} (br : Br2 K r f) {σ : L2.St} {H : Hp} {Q : VK} (h : dE K W (e2 f ta tb) σ H Q) : tOp r (dE K W ta) (dE K W tb) σ H Q := by
  obtain ⟨ρ, μ, S, R, Rx, at_, h, ok, ox⟩ := h
  refine ⟨ρ, μ, S, _, Rx, at_, h, fun x S1 vx μ1 H1 h1 e1 s1 r1 => ?_, ox⟩
  refine ⟨ρ, μ1, S1, _, Rx, ⟨at_.env.mono e1, s1⟩, h1, fun y S2 vy μ2 H2 h2 e2 s2 r2 => ?_, ox.ext e1⟩
  exact br x y S2 R vx vy μ2 H2 Q s2 (r1.mono e2) r2 h2 (ok.ext (e1.trans e2))
theorem seq1 {K : PySem.W.Frag} {r : V → Hp → VK → Prop} {f : OU} (br : Br1 K r f) {σ : L2.St} {H : Hp} {Q : VK} (h : dE K W (e1 f ta) σ H Q) : tUn r (dE K W ta) σ H Q := by
  obtain ⟨ρ, μ, S, R, Rx, at_, h, ok, ox⟩ := h
  refine ⟨ρ, μ, S, _, Rx, at_, h, fun x S1 vx μ1 H1 h1 e1 s1 r1 => ?_, ox⟩
  exact br x S1 R vx μ1 H1 Q s1 r1 h1 (ok.ext e1)
theorem de_op {op : Operator} {r : R2} {f : OD} (ho : OpR X (binaryOp op) r) (br : Br2 X.K r f) (ha : PE X a (dE X.K W ta)) (hb : PE X b (dE X.K W tb)) : PE X (.BinOp a op b pos) (dE X.K W (e2 f ta tb)) :=
  (pe_op ho ha hb).imp fun _ _ _ h => seq2 br h
theorem de_un {op : UnaryOp} {r : V → Hp → VK → Prop} {f : OU} (ho : UnR X (unaryOp op) r) (br : Br1 X.K r f) (ha : PE X a (dE X.K W ta)) : PE X (.UnaryOp op a pos) (dE X.K W (e1 f ta)) :=
  (pe_un ho ha).imp fun _ _ _ h => seq1 br h
theorem de_cmp {op : CmpOp} {r : R2} {f : OD} (ho : OpR X (compareOp op) r) (br : Br2 X.K r f) (ha : PE X a (dE X.K W ta)) (hb : PE X b (dE X.K W tb)) (hm : behindInMarks op b = false) : PE X (.Compare a [op] [b] pos) (dE X.K W (e2 f ta tb)) :=
  (pe_cmpR ho ha hb hm).imp fun _ _ _ h => seq2 br h
theorem dt_cmp {op : CmpOp} {r : R2} {f : OD} (ho : OpR X (compareOp op) r) (br : Br2 X.K r f) (hf : ∀ x y S R, f x y S R → f x y S fun d S' => R d S' ∧ ∃ k, d = .bl k) (ha : PE X a (dE X.K W ta)) (hb : PE X b (dE X.K W tb)) (hm : behindInMarks op b = false) :
    PT X (.Compare a [op] [b] pos) (dT X.K W (tTru (e2 f ta tb))) := by
  refine (pt_cmpR ho ha hb hm).imp fun σ H Q h => ?_
  obtain ⟨ρ, μ, S, R, Rx, at_, h, ok, ox⟩ := h
  show tOp r (dE X.K W ta) (dE X.K W tb) σ H fun x H' => ∃ k, x = .bl k ∧ Q k H'
  refine ⟨ρ, μ, S, _, Rx, at_, h, fun x S1 vx μ1 H1 h1 e1 s1 r1 => ?_, ox⟩
  refine ⟨ρ, μ1, S1, _, Rx, ⟨at_.env.mono e1, s1⟩, h1, fun y S2 vy μ2 H2 h2 e2 s2 r2 => ?_, ox.ext e1⟩
  refine br x y S2 _ vx vy μ2 H2 _ s2 (r1.mono e2) r2 (hf _ _ _ _ h2) fun d S' v μ' H' hq e s r => ?_
  obtain ⟨hq, k, rfl⟩ := hq
  cases r
  exact ⟨k, rfl, ok _ _ _ _ hq ((e1.trans e2).trans e) s⟩
/-! ### ints, texts, tuples, lists -/
def addD : OD
  | .int i, .int j => fun S R => R (.int (i + j)) S
  | .str x, .str y => fun S R => x.length + y.length ≤ sizeLine ∧ R (.str (x ++ y)) S
  | .tup xs, .tup ys => fun S R => xs.length + ys.length ≤ sizeLine ∧ R (.tup (xs ++ ys)) S
  | .ref m, .ref n => fun S R => mlstAt m S fun xs => mlstAt n S fun ys => xs.length + ys.length ≤ sizeLine ∧ R (.ref S.length) (S ++ [.lst (xs ++ ys)])
  | _, _ => fun _ _ => False
abbrev rAddD (K : PySem.W.Frag) : R2 := fun x y H Q => rI0 (fun i j => .int (i + j)) x y H Q ∨ (fun x y H Q => (∃ i j, x = .str i ∧ y = .str j ∧ i.length + j.length ≤ sizeLine ∧ Q (.str (i ++ j)) H) ∨
  (fun x y H Q => rCatA K x y H Q ∨ rCat x y H Q) x y H Q) x y H Q
theorem op_addD : OpR X (binaryOp .Add) (rAddD X.K) := op_add.or (op_add_str.or (op_catA.or op_cat))
theorem Sim.lst {K : PySem.W.Frag} {H : Hp} {μ : List Addr} {S : Sto} {n : Nat} {p : Addr} {xs : List D} (s : Sim K H μ S) (h : μ[n]? = some p) (e : S[n]? = some (.lst xs)) : ∃ vs, H p = some (.lst vs) ∧ Reps K H μ xs vs := s.ob n p _ h e
theorem Sim.newLst {K : PySem.W.Frag} {H : Hp} {μ : List Addr} {S : Sto} {p : Addr} {xs : List D} {vs : List V} (s : Sim K H μ S) (hp : H p = none) (r : Reps K H μ xs vs) :
    Ext K H μ (upd H p (.lst vs)) (μ ++ [p]) ∧ Sim K (upd H p (.lst vs)) (μ ++ [p]) (S ++ [.lst xs]) ∧ Rep K (upd H p (.lst vs)) (μ ++ [p]) (.ref S.length) (.ref p) :=
  ⟨Ext.new hp, s.new hp ⟨vs, upd_same, r.mono (Ext.new hp)⟩, .ref (by rw [← s.len]; simp)⟩
theorem Sim.newTup {K : PySem.W.Frag} {H : Hp} {μ : List Addr} {S : Sto} {p : Addr} {xs : List D} {vs : List V} (s : Sim K H μ S) (hp : H p = none) (r : Reps K H μ xs vs) :
    Ext K H μ (upd H p (.tup vs)) μ ∧ Sim K (upd H p (.tup vs)) μ S ∧ Rep K (upd H p (.tup vs)) μ (.tup xs) (.ref p) :=
  have e : Ext K H μ (upd H p (.tup vs)) μ := Ext.fresh hp fun _ _ h => h
  ⟨e, s.tup hp, .tup (.inl (.inl upd_same)) (r.mono e)⟩
theorem Reps.nil_iff {K : PySem.W.Frag} {H : Hp} {μ : List Addr} {xs : List D} {vs : List V} (r : Reps K H μ xs vs) : xs = [] ↔ vs = [] := by
  have := r.length
  cases xs <;> cases vs <;> simp_all
theorem br_add : Br2 X.K (rAddD X.K) addD := by
  intro x y S R vx vy μ H Q s r1 r2 h ok
  unfold addD at h
  split at h
  · cases r1; cases r2
    exact .inl ⟨_, _, rfl, rfl, ok _ _ _ _ _ h Ext.refl s (.int _)⟩
  · cases r1; cases r2
    exact .inr (.inl ⟨_, _, rfl, rfl, h.1, ok _ _ _ _ _ h.2 Ext.refl s (.str _)⟩)
  · cases r1 with | tup t1 q1 =>
    cases r2 with | tup t2 q2 =>
    refine .inr (.inr (.inl ⟨_, _, _, _, rfl, rfl, t1, t2, by rw [← q1.length, ← q2.length]; exact h.1, fun e => ?_, fun e1 e2 => ?_, fun e1 e2 p hp => ?_⟩))
    · have e' := q1.nil_iff.mpr e
      subst e'
      exact ok _ _ _ _ _ h.2 Ext.refl s (.tup t2 q2)
    · have e' := q2.nil_iff.mpr e2
      subst e'
      rw [List.append_nil] at h
      exact ok _ _ _ _ _ h.2 Ext.refl s (.tup t1 q1)
    · obtain ⟨e, s', r⟩ := s.newTup hp (q1.append q2)
      exact ok _ _ _ _ _ h.2 e s' r
  · rename_i m n
    cases r1 with | ref p1 =>
    cases r2 with | ref p2 =>
    obtain ⟨xs, g1, h⟩ := mlst_inv h
    obtain ⟨ys, g2, h⟩ := mlst_inv h
    obtain ⟨vs, hv, qv⟩ := s.lst p1 g1
    obtain ⟨us, hu, qu⟩ := s.lst p2 g2
    refine .inr (.inr (.inr ⟨_, _, _, _, rfl, rfl, hv, hu, by rw [← qv.length, ← qu.length]; exact h.1, fun p hp => ?_⟩))
    obtain ⟨e, s', r⟩ := s.newLst hp (qv.append qu)
    exact ok _ _ _ _ _ h.2 e s' r
  · exact h.elim
theorem de_add (ha : PE X a (dE X.K W ta)) (hb : PE X b (dE X.K W tb)) : PE X (.BinOp a .Add b pos) (dE X.K W (e2 addD ta tb)) := de_op op_addD br_add ha hb
def subD : OD
  | .int i, .int j => fun S R => R (.int (i - j)) S
  | _, _ => fun _ _ => False
theorem br_sub : Br2 X.K (rI0 fun i j => .int (i - j)) subD := by
  intro x y S R vx vy μ H Q s r1 r2 h ok
  unfold subD at h
  split at h
  · cases r1; cases r2
    exact ⟨_, _, rfl, rfl, ok _ _ _ _ _ h Ext.refl s (.int _)⟩
  · exact h.elim
theorem de_sub (ha : PE X a (dE X.K W ta)) (hb : PE X b (dE X.K W tb)) : PE X (.BinOp a .Sub b pos) (dE X.K W (e2 subD ta tb)) := de_op op_sub br_sub ha hb
def mulD : OD
  | .int i, .int j => fun S R => i.natAbs.log2 + j.natAbs.log2 < 1000000 ∧ R (.int (i * j)) S
  | .ref m, .int k => fun S R => mlstAt m S fun xs => (-(2 ^ 63) ≤ k ∧ k < 2 ^ 63 ∧ xs.length * k.toNat ≤ sizeLine) ∧ R (.ref S.length) (S ++ [.lst (List.replicate k.toNat xs).flatten])
  | .tup xs, .int k => fun S R => (-(2 ^ 63) ≤ k ∧ k ≤ 1000 ∧ xs.length ≤ 1000) ∧ R (.tup (List.replicate k.toNat xs).flatten) S
  | _, _ => fun _ _ => False
theorem br_mul : Br2 X.K (fun x y H Q => rI CMulW (fun i j => .int (i * j)) x y H Q ∨ rRep x y H Q ∨ rRepA X.K x y H Q) mulD := by
  intro x y S R vx vy μ H Q s r1 r2 h ok
  unfold mulD at h
  split at h
  · cases r1; cases r2
    exact .inl ⟨_, _, rfl, rfl, h.1, ok _ _ _ _ _ h.2 Ext.refl s (.int _)⟩
  · cases r1 with | ref p1 =>
    cases r2
    obtain ⟨xs, g1, h⟩ := mlst_inv h
    obtain ⟨vs, hv, qv⟩ := s.lst p1 g1
    obtain ⟨⟨h1, h2, h3⟩, h⟩ := h
    refine .inr (.inl ⟨_, _, _, rfl, rfl, hv, h1, h2, by rw [← qv.length]; exact h3, fun p hp => ?_⟩)
    obtain ⟨e, s', r⟩ := s.newLst hp (qv.rep _)
    exact ok _ _ _ _ _ h e s' r
  · obtain ⟨⟨h1, h2, h3⟩, h⟩ := h
    cases r1 with | tup tt q =>
    cases r2
    rename_i xs k _ vs
    refine .inr (.inr ⟨_, _, _, rfl, rfl, tt, h1, h2, by rw [← q.length]; exact h3, fun hh => ?_, fun _ _ p hp => ?_⟩)
    · have e : (List.replicate k.toNat xs).flatten = xs := by
        rcases hh with hh | hh
        · have : xs = [] := List.eq_nil_of_length_eq_zero (by rw [q.length, hh]; rfl)
          rw [this]
          generalize k.toNat = m
          induction m with
          | zero => rfl
          | succ m ih => rw [List.replicate_succ, List.flatten_cons, ih]; rfl
        · rw [hh]; simp
      rw [e] at h
      exact ok _ _ _ _ _ h Ext.refl s (.tup tt q)
    · obtain ⟨e, s', r⟩ := s.newTup hp (q.rep k.toNat)
      exact ok _ _ _ _ _ h e s' r
  · exact h.elim
theorem de_mul (ha : PE X a (dE X.K W ta)) (hb : PE X b (dE X.K W tb)) : PE X (.BinOp a .Mult b pos) (dE X.K W (e2 mulD ta tb)) := de_op (op_mulW.or (op_rep.or op_repA)) br_mul ha hb
def divD : OD
  | .int i, .int j => fun S R => (0 < j ∧ j.natAbs.log2 < 9000) ∧ R (.int (i / j)) S
  | _, _ => fun _ _ => False
theorem br_div : Br2 X.K (rI CDivW fun i j => .int (i / j)) divD := by
  intro x y S R vx vy μ H Q s r1 r2 h ok
  unfold divD at h
  split at h
  · cases r1; cases r2
    exact ⟨_, _, rfl, rfl, h.1, ok _ _ _ _ _ h.2 Ext.refl s (.int _)⟩
  · exact h.elim
theorem de_div (ha : PE X a (dE X.K W ta)) (hb : PE X b (dE X.K W tb)) : PE X (.BinOp a .FloorDiv b pos) (dE X.K W (e2 divD ta tb)) := de_op op_fdivW br_div ha hb
def modD : OD
  | .int i, .int j => fun S R => 0 < j ∧ R (.int (i % j)) S
  | _, _ => fun _ _ => False
theorem br_mod : Br2 X.K (rI (fun _ j => 0 < j) fun i j => .int (i % j)) modD := by
  intro x y S R vx vy μ H Q s r1 r2 h ok
  unfold modD at h
  split at h
  · cases r1; cases r2
    exact ⟨_, _, rfl, rfl, h.1, ok _ _ _ _ _ h.2 Ext.refl s (.int _)⟩
  · exact h.elim
theorem de_mod (ha : PE X a (dE X.K W ta)) (hb : PE X b (dE X.K W tb)) : PE X (.BinOp a .Mod b pos) (dE X.K W (e2 modD ta tb)) := de_op op_mod br_mod ha hb
def powD : OD
  | .int i, .int j => fun S R => (0 ≤ j ∧ j ≤ 1000000 ∧ i.natAbs < 2 ^ 64) ∧ R (.int (i ^ j.toNat)) S
  | _, _ => fun _ _ => False
theorem br_pow : Br2 X.K (rI CPow fun i j => .int (i ^ j.toNat)) powD := by
  intro x y S R vx vy μ H Q s r1 r2 h ok
  unfold powD at h
  split at h
  · cases r1; cases r2
    exact ⟨_, _, rfl, rfl, h.1, ok _ _ _ _ _ h.2 Ext.refl s (.int _)⟩
  · exact h.elim
theorem de_pow (ha : PE X a (dE X.K W ta)) (hb : PE X b (dE X.K W tb)) : PE X (.BinOp a .Pow b pos) (dE X.K W (e2 powD ta tb)) := de_op op_pow br_pow ha hb
def negD : OU
  | .int i => fun S R => R (.int (-i)) S
  | _ => fun _ _ => False
theorem br_neg : Br1 X.K (rU fun i => .int (-i)) negD := by
  intro x S R vx μ H Q s r1 h ok
  unfold negD at h
  split at h
  · cases r1
    exact ⟨_, rfl, ok _ _ _ _ _ h Ext.refl s (.int _)⟩
  · exact h.elim
theorem de_neg (ha : PE X a (dE X.K W ta)) : PE X (.UnaryOp .USub a pos) (dE X.K W (e1 negD ta)) := de_un un_neg br_neg ha

/-! ### comparisons -/
def ltD : OD
  | .int i, .int j => fun S R => R (.bl (decide (i < j))) S
  | .str i, .str j => fun S R => R (.bl (decide (i.cps.toList < j.cps.toList))) S
  | _, _ => fun _ _ => False
def leD : OD
  | .int i, .int j => fun S R => R (.bl (decide (i ≤ j))) S
  | _, _ => fun _ _ => False
def gtD : OD
  | .int i, .int j => fun S R => R (.bl (decide (j < i))) S
  | _, _ => fun _ _ => False
def geD : OD
  | .int i, .int j => fun S R => R (.bl (decide (j ≤ i))) S
  | _, _ => fun _ _ => False
theorem br_lt : Br2 X.K (fun x y H Q => rI0 (fun i j => .bl (decide (i < j))) x y H Q ∨ ∃ i j, x = .str i ∧ y = .str j ∧ Q (.bl (decide (i.cps.toList < j.cps.toList))) H) ltD := by
  intro x y S R vx vy μ H Q s r1 r2 h ok
  unfold ltD at h
  split at h
  · cases r1; cases r2
    exact .inl ⟨_, _, rfl, rfl, ok _ _ _ _ _ h Ext.refl s (.bl _)⟩
  · cases r1; cases r2
    exact .inr ⟨_, _, rfl, rfl, ok _ _ _ _ _ h Ext.refl s (.bl _)⟩
  · exact h.elim
theorem br_le : Br2 X.K (rI0 fun i j => .bl (decide (i ≤ j))) leD := by
  intro x y S R vx vy μ H Q s r1 r2 h ok
  unfold leD at h
  split at h
  · cases r1; cases r2
    exact ⟨_, _, rfl, rfl, ok _ _ _ _ _ h Ext.refl s (.bl _)⟩
  · exact h.elim
theorem br_gt : Br2 X.K (rI0 fun i j => .bl (decide (j < i))) gtD := by
  intro x y S R vx vy μ H Q s r1 r2 h ok
  unfold gtD at h
  split at h
  · cases r1; cases r2
    exact ⟨_, _, rfl, rfl, ok _ _ _ _ _ h Ext.refl s (.bl _)⟩
  · exact h.elim
theorem br_ge : Br2 X.K (rI0 fun i j => .bl (decide (j ≤ i))) geD := by
  intro x y S R vx vy μ H Q s r1 r2 h ok
  unfold geD at h
  split at h
  · cases r1; cases r2
    exact ⟨_, _, rfl, rfl, ok _ _ _ _ _ h Ext.refl s (.bl _)⟩
  · exact h.elim
theorem bl_lt : ∀ x y S (R : RD), ltD x y S R → ltD x y S fun d S' => R d S' ∧ ∃ k, d = .bl k := by
  intro x y S R h; unfold ltD at h ⊢; split at h <;> first | exact ⟨h, _, rfl⟩ | exact h.elim
theorem bl_le : ∀ x y S (R : RD), leD x y S R → leD x y S fun d S' => R d S' ∧ ∃ k, d = .bl k := by
  intro x y S R h; unfold leD at h ⊢; split at h <;> first | exact ⟨h, _, rfl⟩ | exact h.elim
theorem bl_gt : ∀ x y S (R : RD), gtD x y S R → gtD x y S fun d S' => R d S' ∧ ∃ k, d = .bl k := by
  intro x y S R h; unfold gtD at h ⊢; split at h <;> first | exact ⟨h, _, rfl⟩ | exact h.elim
theorem bl_ge : ∀ x y S (R : RD), geD x y S R → geD x y S fun d S' => R d S' ∧ ∃ k, d = .bl k := by
  intro x y S R h; unfold geD at h ⊢; split at h <;> first | exact ⟨h, _, rfl⟩ | exact h.elim
theorem de_lt (ha : PE X a (dE X.K W ta)) (hb : PE X b (dE X.K W tb)) : PE X (.Compare a [.Lt] [b] pos) (dE X.K W (e2 ltD ta tb)) := de_cmp op_ltS br_lt ha hb (nomark _)
theorem de_le (ha : PE X a (dE X.K W ta)) (hb : PE X b (dE X.K W tb)) : PE X (.Compare a [.LtE] [b] pos) (dE X.K W (e2 leD ta tb)) := de_cmp op_le br_le ha hb (nomark _)
theorem de_gt (ha : PE X a (dE X.K W ta)) (hb : PE X b (dE X.K W tb)) : PE X (.Compare a [.Gt] [b] pos) (dE X.K W (e2 gtD ta tb)) := de_cmp op_gt br_gt ha hb (nomark _)
theorem de_ge (ha : PE X a (dE X.K W ta)) (hb : PE X b (dE X.K W tb)) : PE X (.Compare a [.GtE] [b] pos) (dE X.K W (e2 geD ta tb)) := de_cmp op_ge br_ge ha hb (nomark _)
theorem dt_lt (ha : PE X a (dE X.K W ta)) (hb : PE X b (dE X.K W tb)) : PT X (.Compare a [.Lt] [b] pos) (dT X.K W (tTru (e2 ltD ta tb))) := dt_cmp op_ltS br_lt bl_lt ha hb (nomark _)
theorem dt_le (ha : PE X a (dE X.K W ta)) (hb : PE X b (dE X.K W tb)) : PT X (.Compare a [.LtE] [b] pos) (dT X.K W (tTru (e2 leD ta tb))) := dt_cmp op_le br_le bl_le ha hb (nomark _)
theorem dt_gt (ha : PE X a (dE X.K W ta)) (hb : PE X b (dE X.K W tb)) : PT X (.Compare a [.Gt] [b] pos) (dT X.K W (tTru (e2 gtD ta tb))) := dt_cmp op_gt br_gt bl_gt ha hb (nomark _)
theorem dt_ge (ha : PE X a (dE X.K W ta)) (hb : PE X b (dE X.K W tb)) : PT X (.Compare a [.GtE] [b] pos) (dT X.K W (tTru (e2 geD ta tb))) := dt_cmp op_ge br_ge bl_ge ha hb (nomark _)
/-- the scalars that == tells apart -/
def scalD : D → D → Option Bool
  | .non, .non => some true
  | .non, .int _ => some false | .int _, .non => some false
  | .non, .bl _ => some false | .bl _, .non => some false
  | .non, .str _ => some false | .str _, .non => some false
  | .int i, .int j => some (decide (i = j))
  | .bl i, .bl j => some (decide (i = j))
  | .str i, .str j => some (decide (i = j))
  | .int _, .str _ => some false | .str _, .int _ => some false
  | .bl _, .str _ => some false | .str _, .bl _ => some false
  | _, _ => none
def eqD : OD := fun x y S R => match scalD x y with
  | some k => R (.bl k) S
  | none => False
def neD : OD := fun x y S R => match scalD x y with
  | some k => R (.bl (!k)) S
  | none => False
theorem scal_of {K : PySem.W.Frag} {H : Hp} {μ : List Addr} {x y : D} {vx vy : V} {k : Bool} (r1 : Rep K H μ x vx) (r2 : Rep K H μ y vy) (h : scalD x y = some k) : scal vx vy = true ∧ decide (vx = vy) = k := by
  unfold scalD at h
  split at h <;> (try cases h) <;> cases r1 <;> cases r2 <;> simp [scal]
theorem br_eq : Br2 X.K rEq eqD := by
  intro x y S R vx vy μ H Q s r1 r2 h ok
  unfold eqD at h
  split at h
  · rename_i k e
    obtain ⟨h1, h2⟩ := scal_of r1 r2 e
    refine ⟨h1, ?_⟩
    rw [h2]
    exact ok _ _ _ _ _ h Ext.refl s (.bl _)
  · exact h.elim
theorem br_ne : Br2 X.K rNe neD := by
  intro x y S R vx vy μ H Q s r1 r2 h ok
  unfold neD at h
  split at h
  · rename_i k e
    obtain ⟨h1, h2⟩ := scal_of r1 r2 e
    refine ⟨h1, ?_⟩
    rw [h2]
    exact ok _ _ _ _ _ h Ext.refl s (.bl _)
  · exact h.elim
theorem bl_eq : ∀ x y S (R : RD), eqD x y S R → eqD x y S fun d S' => R d S' ∧ ∃ k, d = .bl k := by
  intro x y S R h; unfold eqD at h ⊢; split at h <;> first | exact ⟨h, _, rfl⟩ | exact h.elim
theorem bl_ne : ∀ x y S (R : RD), neD x y S R → neD x y S fun d S' => R d S' ∧ ∃ k, d = .bl k := by
  intro x y S R h; unfold neD at h ⊢; split at h <;> first | exact ⟨h, _, rfl⟩ | exact h.elim
theorem de_eq (ha : PE X a (dE X.K W ta)) (hb : PE X b (dE X.K W tb)) : PE X (.Compare a [.Eq] [b] pos) (dE X.K W (e2 eqD ta tb)) := de_cmp op_eq br_eq ha hb (nomark _)
theorem de_ne (ha : PE X a (dE X.K W ta)) (hb : PE X b (dE X.K W tb)) : PE X (.Compare a [.NotEq] [b] pos) (dE X.K W (e2 neD ta tb)) := de_cmp op_ne br_ne ha hb (nomark _)
theorem dt_eq (ha : PE X a (dE X.K W ta)) (hb : PE X b (dE X.K W tb)) : PT X (.Compare a [.Eq] [b] pos) (dT X.K W (tTru (e2 eqD ta tb))) := dt_cmp op_eq br_eq bl_eq ha hb (nomark _)
theorem dt_ne (ha : PE X a (dE X.K W ta)) (hb : PE X b (dE X.K W tb)) : PT X (.Compare a [.NotEq] [b] pos) (dT X.K W (tTru (e2 neD ta tb))) := dt_cmp op_ne br_ne bl_ne ha hb (nomark _)
end
end DL
namespace DL
open PySem PySem.Spec PyProof.Rows L2
variable [PWd]

section
variable {X : Cx} {W : WX} {a b c : Expr} {ta tb : TD} {tc td : TDT} {pos : Pos} {es rest : List Expr} {tr : TDA} {n : Nat}
/-! ### truth -/
theorem Sim.fix {K : PySem.W.Frag} {H : Hp} {μ : List Addr} {S : Sto} {n : Nat} {p : Addr} {xs : List D} (s : Sim K H μ S) (h : μ[n]? = some p) (e : S[n]? = some (.fix xs)) : ∃ vs, FixL K H p vs ∧ Reps K H μ xs vs := s.ob n p _ h e
theorem Reps.isEmpty {K : PySem.W.Frag} {H : Hp} {μ : List Addr} {xs : List D} {vs : List V} (r : Reps K H μ xs vs) : xs.isEmpty = vs.isEmpty := by
  cases r <;> rfl
theorem tru_of {K : PySem.W.Frag} {H : Hp} {μ : List Addr} {S : Sto} {d : D} {v : V} {R : Bool → Prop} (s : Sim K H μ S) (r : Rep K H μ d v) (h : truD d S R) : ∃ k, TruV K v H k ∧ R k := by
  unfold truD at h
  cases r with
  | non => exact ⟨_, rfl, h⟩
  | bl b => exact ⟨_, rfl, h⟩
  | int i => exact ⟨_, rfl, h⟩
  | str x => exact ⟨_, ⟨h.1, rfl⟩, h.2⟩
  | tup t q => exact ⟨_, .inr (.inl ⟨_, t, rfl⟩), by rw [← q.isEmpty]; exact h⟩
  | fn x => exact h.elim
  | ref g =>
    obtain ⟨xs, e, h⟩ := lst_inv h
    obtain ⟨vs, hv, q⟩ := s.lstR g e
    exact ⟨_, .inl ⟨_, hv, rfl⟩, by rw [← q.isEmpty]; exact h⟩
theorem dt_tru (ha : PE X a (dE X.K W ta)) (he : ∀ whole, isTrue a X.env whole = (do let v ← whole; standAt a.pos; holding [v] (truthy v)) := by intro _; rfl) : PT X a (dT X.K W (tTru ta)) := by
  refine (pt_truth ha he).imp fun σ H Q ⟨ρ, μ, S, R, Rx, at_, h, ok, ox⟩ => ?_
  refine ⟨ρ, μ, S, _, Rx, at_, h, fun d S' v μ' H' h' e s r => ?_, ox⟩
  obtain ⟨k, h1, h2⟩ := tru_of s r h'
  exact ⟨k, h1, ok _ _ _ _ h2 e s⟩
theorem dt_not (ha : PT X a (dT X.K W tc)) : PT X (.UnaryOp .Not a pos) (dT X.K W (tNotD tc)) :=
  (pt_not ha).imp fun σ H Q ⟨ρ, μ, S, R, Rx, at_, h, ok, ox⟩ => ⟨ρ, μ, S, _, Rx, at_, h, fun b S' μ' H' h' e s => ok _ _ _ _ h' e s, ox⟩
theorem _root_.L2.PW.imp {X : Cx} {e : Expr} {t t' : TT} (h : PW X e t) (i : ∀ σ H Q, t' σ H Q → t σ H Q) : PW X e t' := ⟨fun wh pins s σ H Q I q => h.run wh pins s σ H Q I (i σ H Q q)⟩
theorem dw_and (ha : PT X a (dT X.K W tc)) (hb : PW X (.BoolOp .And (b :: rest) pos) (dT X.K W td)) : PW X (.BoolOp .And (a :: b :: rest) pos) (dT X.K W (tAndD tc td)) := by
  refine (pw_and ha hb).imp fun σ H Q ⟨ρ, μ, S, R, Rx, at_, h, ok, ox⟩ => ?_
  refine ⟨ρ, μ, S, _, Rx, at_, h, fun b S' μ' H' h' e s => ?_, ox⟩
  cases b with
  | true => exact ⟨ρ, μ', S', R, Rx, ⟨at_.env.mono e, s⟩, ift_t h', ok.ext e, ox.ext e⟩
  | false => exact ok _ _ _ _ (ift_f h') e s
theorem dw_or (ha : PT X a (dT X.K W tc)) (hb : PW X (.BoolOp .Or (b :: rest) pos) (dT X.K W td)) : PW X (.BoolOp .Or (a :: b :: rest) pos) (dT X.K W (tOrD tc td)) := by
  refine (pw_or ha hb).imp fun σ H Q ⟨ρ, μ, S, R, Rx, at_, h, ok, ox⟩ => ?_
  refine ⟨ρ, μ, S, _, Rx, at_, h, fun b S' μ' H' h' e s => ?_, ox⟩
  cases b with
  | false => exact ⟨ρ, μ', S', R, Rx, ⟨at_.env.mono e, s⟩, ift_f h', ok.ext e, ox.ext e⟩
  | true => exact ok _ _ _ _ (ift_t h') e s
theorem de_and (ha : PE X a (dE X.K W ta)) (hb : PE X (.BoolOp .And (b :: rest) pos) (dE X.K W tb)) : PE X (.BoolOp .And (a :: b :: rest) pos) (dE X.K W (eAnd ta tb)) := by
  refine (pe_andT ha hb).imp fun σ H Q ⟨ρ, μ, S, R, Rx, at_, h, ok, ox⟩ => ?_
  refine ⟨ρ, μ, S, _, Rx, at_, h, fun d S' v μ' H' h' e s r => ?_, ox⟩
  obtain ⟨k, h1, h2⟩ := tru_of s r h'
  refine ⟨k, h1, ?_⟩
  cases k with
  | true => exact ⟨ρ, μ', S', R, Rx, ⟨at_.env.mono e, s⟩, ift_t h2, ok.ext e, ox.ext e⟩
  | false => exact ok _ _ _ _ _ (ift_f h2) e s r
theorem de_or (ha : PE X a (dE X.K W ta)) (hb : PE X (.BoolOp .Or (b :: rest) pos) (dE X.K W tb)) : PE X (.BoolOp .Or (a :: b :: rest) pos) (dE X.K W (eOr ta tb)) := by
  refine (pe_orT ha hb).imp fun σ H Q ⟨ρ, μ, S, R, Rx, at_, h, ok, ox⟩ => ?_
  refine ⟨ρ, μ, S, _, Rx, at_, h, fun d S' v μ' H' h' e s r => ?_, ox⟩
  obtain ⟨k, h1, h2⟩ := tru_of s r h'
  refine ⟨k, h1, ?_⟩
  cases k with
  | false => exact ⟨ρ, μ', S', R, Rx, ⟨at_.env.mono e, s⟩, ift_f h2, ok.ext e, ox.ext e⟩
  | true => exact ok _ _ _ _ _ (ift_t h2) e s r
theorem de_not (ha : PE X a (dE X.K W ta)) : PE X (.UnaryOp .Not a pos) (dE X.K W (eNot ta)) := by
  refine (pe_notT ha).imp fun σ H Q ⟨ρ, μ, S, R, Rx, at_, h, ok, ox⟩ => ?_
  refine ⟨ρ, μ, S, _, Rx, at_, h, fun d S' v μ' H' h' e s r => ?_, ox⟩
  obtain ⟨k, h1, h2⟩ := tru_of s r h'
  exact ⟨k, h1, ok _ _ _ _ _ h2 e s (.bl _)⟩
theorem de_if (hc : PT X c (dT X.K W tc)) (ha : PE X a (dE X.K W ta)) (hb : PE X b (dE X.K W tb)) : PE X (.IfExp c a b pos) (dE X.K W (eIf tc ta tb)) := by
  refine (pe_ifExp hc ha hb).imp fun σ H Q ⟨ρ, μ, S, R, Rx, at_, h, ok, ox⟩ => ?_
  refine ⟨ρ, μ, S, _, Rx, at_, h, fun b S' μ' H' h' e s => ?_, ox⟩
  cases b with
  | true => exact ⟨ρ, μ', S', R, Rx, ⟨at_.env.mono e, s⟩, ift_t h', ok.ext e, ox.ext e⟩
  | false => exact ⟨ρ, μ', S', R, Rx, ⟨at_.env.mono e, s⟩, ift_f h', ok.ext e, ox.ext e⟩
/-! ### is -/
def isND : OU := fun x S R => match x with
  | .non => R (.bl true) S
  | _ => R (.bl false) S
def isNotND : OU := fun x S R => match x with
  | .non => R (.bl false) S
  | _ => R (.bl true) S
theorem rep_non {K : PySem.W.Frag} {H : Hp} {μ : List Addr} {d : D} {v : V} (r : Rep K H μ d v) : (v = .non) ↔ d = .non := by
  cases r <;> simp
theorem de_isN {j pos'} (ha : PE X a (dE X.K W ta)) : PE X (.Compare a [.Is] [.Constant .none j pos'] pos) (dE X.K W (e1 isND ta)) := by
  refine (pe_cmpR op_isN ha pe_non (nomark _)).imp fun σ H Q ⟨ρ, μ, S, R, Rx, at_, h, ok, ox⟩ => ?_
  refine ⟨ρ, μ, S, _, Rx, at_, h, fun d S' v μ' H' h' e s r => ⟨rfl, ?_⟩, ox⟩
  cases r <;> exact ok _ _ _ _ _ h' e s (.bl _)
theorem de_notN {j pos'} (ha : PE X a (dE X.K W ta)) : PE X (.Compare a [.IsNot] [.Constant .none j pos'] pos) (dE X.K W (e1 isNotND ta)) := by
  refine (pe_cmpR op_notN ha pe_non (nomark _)).imp fun σ H Q ⟨ρ, μ, S, R, Rx, at_, h, ok, ox⟩ => ?_
  refine ⟨ρ, μ, S, _, Rx, at_, h, fun d S' v μ' H' h' e s r => ⟨rfl, ?_⟩, ox⟩
  cases r <;> exact ok _ _ _ _ _ h' e s (.bl _)
theorem dt_isN {j pos'} (ha : PE X a (dE X.K W ta)) : PT X (.Compare a [.Is] [.Constant .none j pos'] pos) (dT X.K W (tTru (e1 isND ta))) := by
  refine (pt_cmpR op_isN ha pe_non (nomark _)).imp fun σ H Q ⟨ρ, μ, S, R, Rx, at_, h, ok, ox⟩ => ?_
  refine ⟨ρ, μ, S, _, Rx, at_, h, fun d S' v μ' H' h' e s r => ⟨rfl, _, rfl, ?_⟩, ox⟩
  cases r <;> exact ok _ _ _ _ h' e s
theorem dt_notN {j pos'} (ha : PE X a (dE X.K W ta)) : PT X (.Compare a [.IsNot] [.Constant .none j pos'] pos) (dT X.K W (tTru (e1 isNotND ta))) := by
  refine (pt_cmpR op_notN ha pe_non (nomark _)).imp fun σ H Q ⟨ρ, μ, S, R, Rx, at_, h, ok, ox⟩ => ?_
  refine ⟨ρ, μ, S, _, Rx, at_, h, fun d S' v μ' H' h' e s r => ⟨rfl, _, rfl, ?_⟩, ox⟩
  cases r <;> exact ok _ _ _ _ h' e s
/-! ### built-ins -/
theorem br_args {K : PySem.W.Frag} {r : List V → Hp → VK → Prop} {f : OC} (br : BrC K r f) {σ : L2.St} {H : Hp} {Q : VK} (h : dE K W (eB f tr) σ H Q) : tCB r (dA K W n tr) σ H Q := by
  obtain ⟨ρ, μ, S, R, Rx, at_, h, ok, ox⟩ := h
  exact ⟨ρ, μ, S, _, Rx, at_, h, fun xs S1 vs μ1 H1 _ h1 e1 s1 r1 => br xs S1 R vs μ1 H1 Q s1 r1 h1 (ok.ext e1), ox⟩
theorem da_nil : PA X [] (dA X.K W 0 aNil) := pa_nil.imp fun σ H Q ⟨ρ, μ, S, R, Rx, at_, h, ok, ox⟩ => ok _ _ _ _ _ rfl h Ext.refl at_.sim .nil
theorem da_cons (ha : PE X a (dE X.K W ta)) (hr : PA X es (dA X.K W n tr)) (hs : starEach (a :: es) X.env = (false, eval a X.env) :: starEach es X.env := by rfl) : PA X (a :: es) (dA X.K W (n + 1) (aCons ta tr)) := by
  refine (pa_cons ha hr hs).imp fun σ H Q ⟨ρ, μ, S, R, Rx, at_, h, ok, ox⟩ => ?_
  refine ⟨ρ, μ, S, _, Rx, at_, h, fun d S' v μ' H' h' e s r => ?_, ox⟩
  refine ⟨ρ, μ', S', _, Rx, ⟨at_.env.mono e, s⟩, h', fun ds S2 vs μ2 H2 l2 h2 e2 s2 r2 => ?_, ox.ext e⟩
  exact ok _ _ _ _ _ (by rw [List.length_cons, l2]) h2 (e.trans e2) s2 (.cons (r.mono e2) r2)
theorem de_tup {k} (h : PA X es (dA X.K W n tr)) : PE X (.Tuple es k pos) (dE X.K W (eTup tr)) := by
  refine (pe_tup h).imp fun σ H Q ⟨ρ, μ, S, R, Rx, at_, h, ok, ox⟩ => ?_
  refine ⟨ρ, μ, S, _, Rx, at_, h, fun ds S' vs μ' H' _ h' e s r => ⟨by rw [← r.length]; exact h'.1, fun p hp => ?_⟩, ox⟩
  obtain ⟨e', s', r'⟩ := s.newTup hp r
  exact ok _ _ _ _ _ h'.2 (e.trans e') s' r'
theorem de_lst (h : PA X es (dA X.K W n tr)) : PE X (.List es pos) (dE X.K W (eLst tr)) := by
  refine (pe_lst h).imp fun σ H Q ⟨ρ, μ, S, R, Rx, at_, h, ok, ox⟩ => ?_
  refine ⟨ρ, μ, S, _, Rx, at_, h, fun ds S' vs μ' H' _ h' e s r => ⟨by rw [← r.length]; exact h'.1, fun p hp => ?_⟩, ox⟩
  obtain ⟨e', s', r'⟩ := s.newLst hp r
  exact ok _ _ _ _ _ h'.2 (e.trans e') s' r'
theorem de_callB {x : Str} {id : String} {r : List V → Hp → VK → Prop} {f : OC} {p : Pos} (hc : CallR X (.builtin id) r) (br : BrC X.K r f) (hm : X.mg x = none) (hv : bootBuiltins x = some (.builtin id)) (ha : PA X (a :: es) (dA X.K W n tr)) (hg : Gl X x := by rfl) (hn : x ≠ "__name__" := by decide) (hdb : (x == ("__debug__" : Str)) = false := by decide)
    (he : starEach (a :: es) X.env = (false, eval a X.env) :: starEach es X.env := by rfl) (hpl : (backTo pos (starEach es X.env)).any (·.1) = false := by rfl) : PE X (.Call (.Name x p) (a :: es) [] pos) (dE X.K W (eB f tr)) :=
  (pe_callB hc hg hm hv ha hn hdb he hpl).imp fun _ _ _ h => br_args br h
theorem de_callTy {x : Str} {T : String} {r : List V → Hp → VK → Prop} {f : OC} {p : Pos} (hc : CallR X (.type T) r) (br : BrC X.K r f) (hm : X.mg x = none) (hv : bootBuiltins x = some (.type T)) (ha : PA X (a :: es) (dA X.K W n tr)) (hg : Gl X x := by rfl) (hn : x ≠ "__name__" := by decide) (hdb : (x == ("__debug__" : Str)) = false := by decide)
    (he : starEach (a :: es) X.env = (false, eval a X.env) :: starEach es X.env := by rfl) (hpl : (backTo pos (starEach es X.env)).any (·.1) = false := by rfl) : PE X (.Call (.Name x p) (a :: es) [] pos) (dE X.K W (eB f tr)) :=
  (pe_callTy hc hg hm hv ha hn hdb he hpl).imp fun _ _ _ h => br_args br h
def lenD : OC := fun xs S R => match xs with
  | [.str x] => x.length ≤ sizeLine ∧ R (.int x.length) S
  | [.tup xs] => R (.int xs.length) S
  | [.ref n] => lstAt n S fun xs => R (.int xs.length) S
  | _ => False
theorem br_len : BrC X.K (fun xs H Q => ∃ x n, xs = [x] ∧ LenV X.K x H n ∧ Q (.int n) H) lenD := by
  intro xs S R vs μ H Q s r h ok
  unfold lenD at h
  split at h
  · cases r with | cons r1 r2 => cases r2; cases r1; exact ⟨_, _, rfl, ⟨h.1, rfl⟩, ok _ _ _ _ _ h.2 Ext.refl s (.int _)⟩
  · cases r with | cons r1 r2 => cases r2; cases r1 with | tup t q => exact ⟨_, _, rfl, .inr ⟨_, t, rfl⟩, by rw [← q.length]; exact ok _ _ _ _ _ h Ext.refl s (.int _)⟩
  · cases r with | cons r1 r2 =>
    cases r2
    cases r1 with | ref g =>
    obtain ⟨xs, e, h⟩ := lst_inv h
    obtain ⟨vs, hv, q⟩ := s.lstR g e
    exact ⟨_, _, rfl, .inl ⟨_, hv, rfl⟩, by rw [← q.length]; exact ok _ _ _ _ _ h Ext.refl s (.int _)⟩
  · exact h.elim
def absD : OC := fun xs S R => match xs with
  | [.int i] => R (.int (if i < 0 then -i else i)) S
  | _ => False
theorem br_abs : BrC X.K (fun xs H Q => ∃ i, xs = [.int i] ∧ Q (.int (if i < 0 then -i else i)) H) absD := by
  intro xs S R vs μ H Q s r h ok
  unfold absD at h
  split at h
  · cases r with | cons r1 r2 => cases r2; cases r1; exact ⟨_, rfl, ok _ _ _ _ _ h Ext.refl s (.int _)⟩
  · exact h.elim
def intD : OC := fun xs S R => match xs with
  | [.int i] => R (.int i) S
  | [.bl k] => R (.int (if k then 1 else 0)) S
  | _ => False
theorem br_int : BrC X.K (fun xs H Q => (∃ i, xs = [.int i] ∧ Q (.int i) H) ∨ ∃ k, xs = [.bl k] ∧ Q (.int (if k then 1 else 0)) H) intD := by
  intro xs S R vs μ H Q s r h ok
  unfold intD at h
  split at h
  · cases r with | cons r1 r2 => cases r2; cases r1; exact .inl ⟨_, rfl, ok _ _ _ _ _ h Ext.refl s (.int _)⟩
  · cases r with | cons r1 r2 => cases r2; cases r1; exact .inr ⟨_, rfl, ok _ _ _ _ _ h Ext.refl s (.int _)⟩
  · exact h.elim
def strD : OC := fun xs S R => match xs with
  | [.int i] => i.natAbs.log2 < 1920 ∧ R (.str (toString i)) S
  | _ => False
theorem br_str : BrC X.K (fun xs H Q => ∃ i, xs = [.int i] ∧ i.natAbs.log2 < 1920 ∧ Q (.str (toString i)) H) strD := by
  intro xs S R vs μ H Q s r h ok
  unfold strD at h
  split at h
  · cases r with | cons r1 r2 => cases r2; cases r1; exact ⟨_, rfl, h.1, ok _ _ _ _ _ h.2 Ext.refl s (.str _)⟩
  · exact h.elim
/-- list(x) of a tuple or a list -/
def listD : OC := fun xs S R => match xs with
  | [.tup xs] => R (.ref S.length) (S ++ [.lst xs])
  | [.ref n] => lstAt n S fun xs => R (.ref S.length) (S ++ [.lst xs])
  | _ => False
theorem br_list : BrC X.K (fun xs H Q => ∃ p ys, xs = [.ref p] ∧ (SqL X.K H p ys ∨ SqT X.K H p ys) ∧ ∀ l, H l = none → Q (.ref l) (upd H l (.lst ys))) listD := by
  intro xs S R vs μ H Q s r h ok
  unfold listD at h
  have go : ∀ {ds : List D} {us : List V}, Reps X.K H μ ds us → R (.ref S.length) (S ++ [.lst ds]) → ∀ l, H l = none → Q (.ref l) (upd H l (.lst us)) := fun q h l hl => by
    obtain ⟨e, s', r⟩ := s.newLst hl q
    exact ok _ _ _ _ _ h e s' r
  split at h
  · cases r with | cons r1 r2 => cases r2; cases r1 with | tup t q => exact ⟨_, _, rfl, .inr t, go q h⟩
  · cases r with | cons r1 r2 =>
    cases r2
    cases r1 with | ref g =>
    obtain ⟨xs, e, h⟩ := lst_inv h
    obtain ⟨vs, hv, q⟩ := s.lstR g e
    exact ⟨_, _, rfl, .inl hv, go q h⟩
  · exact h.elim
/-- tuple(x) of a tuple or a list -/
def tupleD : OC := fun xs S R => match xs with
  | [.tup xs] => R (.tup xs) S
  | [.ref n] => lstAt n S fun xs => R (.tup xs) S
  | _ => False
theorem br_tuple : BrC X.K (fun xs H Q => ∃ p ys, xs = [.ref p] ∧ ((SqL X.K H p ys ∧ ∀ l, H l = none → Q (.ref l) (upd H l (.tup ys))) ∨ (SqT X.K H p ys ∧ Q (.ref p) H))) tupleD := by
  intro xs S R vs μ H Q s r h ok
  unfold tupleD at h
  have go : ∀ {ds : List D} {us : List V}, Reps X.K H μ ds us → R (.tup ds) S → ∀ l, H l = none → Q (.ref l) (upd H l (.tup us)) := fun q h l hl => by
    obtain ⟨e, s', r⟩ := s.newTup hl q
    exact ok _ _ _ _ _ h e s' r
  split at h
  · cases r with | cons r1 r2 => cases r2; cases r1 with | tup t q => exact ⟨_, _, rfl, .inr ⟨t, ok _ _ _ _ _ h Ext.refl s (.tup t q)⟩⟩
  · cases r with | cons r1 r2 =>
    cases r2
    cases r1 with | ref g =>
    obtain ⟨xs, e, h⟩ := lst_inv h
    obtain ⟨vs, hv, q⟩ := s.lstR g e
    exact ⟨_, _, rfl, .inl ⟨hv, go q h⟩⟩
  · exact h.elim
/-! ### isinstance -/
/-- a value's built-in class by its place: 0 None, 1 bool, 2 int, 3 str, 4 tuple, 5 list -/
def kindD (d : D) (S : Sto) (k : Nat → Prop) : Prop := match d with
  | .non => k 0
  | .bl _ => k 1
  | .int _ => k 2
  | .str _ => k 3
  | .tup _ => k 4
  | .ref n => lstAt n S fun _ => k 5
  | .fn _ => False
def kName : Nat → String
  | 0 => "NoneType"
  | 1 => "bool"
  | 2 => "int"
  | 3 => "str"
  | 4 => "tuple"
  | _ => "list"
/-- the classes asked for: 1 bool, 2 int, 3 str, 4 tuple, 5 list, 6 dict -/
def tName : Nat → String
  | 1 => "bool"
  | 2 => "int"
  | 3 => "str"
  | 4 => "tuple"
  | 5 => "list"
  | _ => "dict"
def isKT (k t : Nat) : Bool := k == t || (k == 1 && t == 2)
theorem kit_is : ∀ k, k < 6 → ∀ t, 1 ≤ t → t < 7 → kitB (kName k) (tName t) = some (isKT k t) := by
  intro k hk t h1 ht
  have hk' : k = 0 ∨ k = 1 ∨ k = 2 ∨ k = 3 ∨ k = 4 ∨ k = 5 := by omega
  have ht' : t = 1 ∨ t = 2 ∨ t = 3 ∨ t = 4 ∨ t = 5 ∨ t = 6 := by omega
  rcases hk' with rfl | rfl | rfl | rfl | rfl | rfl <;> rcases ht' with rfl | rfl | rfl | rfl | rfl | rfl <;> decide +kernel
theorem kind_of {K : PySem.W.Frag} {H : Hp} {μ : List Addr} {S : Sto} {d : D} {v : V} {Z : Nat → Prop} (s : Sim K H μ S) (r : Rep K H μ d v) (h : kindD d S Z) : ∃ k, Z k ∧ k < 6 ∧ TyX K H v (.type (kName k)) := by
  unfold kindD at h
  cases r with
  | non => exact ⟨_, h, by decide, .base .non⟩
  | bl b => exact ⟨_, h, by decide, .base (.bl b)⟩
  | int i => exact ⟨_, h, by decide, .base (.int i)⟩
  | str x => exact ⟨_, h, by decide, .base (.str x)⟩
  | fn x => exact h.elim
  | tup t q =>
    refine ⟨_, h, by decide, ?_⟩
    rcases t with (t | ⟨o, t⟩) | ⟨o, its, n, h1, h2, _⟩
    · exact .base (.tup t)
    · exact .fTuple t
    · exact .kTuple h1 h2
  | ref g =>
    obtain ⟨xs, e, h⟩ := lst_inv h
    refine ⟨_, h, by decide, ?_⟩
    rcases e with e | e
    · obtain ⟨vs, hv, q⟩ := s.lst g e
      exact .base (.lst hv)
    · obtain ⟨vs, hv, q⟩ := s.fix g e
      rcases hv with ⟨o, hv⟩ | ⟨o, its, n, h1, h2, _⟩
      · exact .base (.frz hv)
      · exact .kList h1 h2
def isiD (t : Nat) : OU := fun x S R => kindD x S fun k => R (.bl (isKT k t)) S
/-- isinstance(e, T) -/
theorem de_isi {p q : Pos} {xT : Str} (t : Nat) (h1 : 1 ≤ t) (h6 : t < 7) (hm : X.mg "isinstance" = none) (hmT : X.mg xT = none) (hvT : bootBuiltins xT = some (.type (tName t))) (ha : PE X a (dE X.K W ta))
    (hg : Gl X "isinstance" := by rfl) (hgT : Gl X xT := by rfl) (hnT : xT ≠ "__name__" := by decide) (hdT : (xT == ("__debug__" : Str)) = false := by decide)
    (hs1 : starEach [a, .Name xT q] X.env = (false, eval a X.env) :: starEach [.Name xT q] X.env := by rfl) (hs2 : starEach [.Name xT q] X.env = (false, eval (.Name xT q) X.env) :: starEach [] X.env := by rfl)
    (hpl : (backTo pos (starEach [.Name xT q] X.env)).any (·.1) = false := by rfl) : PE X (.Call (.Name "isinstance" p) [a, .Name xT q] [] pos) (dE X.K W (e1 (isiD t) ta)) := by
  refine (pe_callB call_isi hg hm PyProof.Rows.boot_isinstance (pa_cons ha (pa_cons (pe_bltn (v := .ty (tName t)) hgT hmT hvT rfl hnT hdT) pa_nil hs2) hs1) (by decide) (by decide) hs1 hpl).imp fun σ H Q ⟨ρ, μ, S, R, Rx, at_, h, ok, ox⟩ => ?_
  refine ⟨ρ, μ, S, _, Rx, at_, h, fun d S' v μ' H' h' e s r => ?_, ox⟩
  obtain ⟨k, h', hk, ty⟩ := kind_of s r h'
  exact ⟨v, .ty (tName t), _, _, _, rfl, .ty _, ty, kit_ty (kit_is k hk t h1 h6), ok _ _ _ _ _ h' e s (.bl _)⟩
def isi3D (t u w : Nat) : OU := fun x S R => kindD x S fun k => R (.bl (isKT k t || (isKT k u || isKT k w))) S
/-- isinstance(e, (T, U, V)) -/
theorem de_isi3 {p q1 q2 q3 qt : Pos} {kt : Nat} {x1 x2 x3 : Str} (t u w : Nat) (a1 : 1 ≤ t ∧ t < 7) (a2 : 1 ≤ u ∧ u < 7) (a3 : 1 ≤ w ∧ w < 7) (hm : X.mg "isinstance" = none) (hm1 : X.mg x1 = none) (hm2 : X.mg x2 = none) (hm3 : X.mg x3 = none)
    (v1 : bootBuiltins x1 = some (.type (tName t))) (v2 : bootBuiltins x2 = some (.type (tName u))) (v3 : bootBuiltins x3 = some (.type (tName w))) (ha : PE X a (dE X.K W ta))
    (hg : Gl X "isinstance" := by rfl) (g1 : Gl X x1 := by rfl) (g2 : Gl X x2 := by rfl) (g3 : Gl X x3 := by rfl) (n1 : x1 ≠ "__name__" := by decide) (n2 : x2 ≠ "__name__" := by decide) (n3 : x3 ≠ "__name__" := by decide)
    (d1 : (x1 == ("__debug__" : Str)) = false := by decide) (d2 : (x2 == ("__debug__" : Str)) = false := by decide) (d3 : (x3 == ("__debug__" : Str)) = false := by decide)
    (hs1 : starEach [a, .Tuple [.Name x1 q1, .Name x2 q2, .Name x3 q3] kt qt] X.env = (false, eval a X.env) :: starEach [.Tuple [.Name x1 q1, .Name x2 q2, .Name x3 q3] kt qt] X.env := by rfl)
    (hs2 : starEach [.Tuple [.Name x1 q1, .Name x2 q2, .Name x3 q3] kt qt] X.env = (false, eval (.Tuple [.Name x1 q1, .Name x2 q2, .Name x3 q3] kt qt) X.env) :: starEach [] X.env := by rfl)
    (hpl : (backTo pos (starEach [.Tuple [.Name x1 q1, .Name x2 q2, .Name x3 q3] kt qt] X.env)).any (·.1) = false := by rfl)
    (hs3 : starEach [.Name x1 q1, .Name x2 q2, .Name x3 q3] X.env = (false, eval (.Name x1 q1) X.env) :: starEach [.Name x2 q2, .Name x3 q3] X.env := by rfl)
    (hs4 : starEach [.Name x2 q2, .Name x3 q3] X.env = (false, eval (.Name x2 q2) X.env) :: starEach [.Name x3 q3] X.env := by rfl) (hs5 : starEach [.Name x3 q3] X.env = (false, eval (.Name x3 q3) X.env) :: starEach [] X.env := by rfl) :
    PE X (.Call (.Name "isinstance" p) [a, .Tuple [.Name x1 q1, .Name x2 q2, .Name x3 q3] kt qt] [] pos) (dE X.K W (e1 (isi3D t u w) ta)) := by
  refine (pe_callB call_isiT hg hm PyProof.Rows.boot_isinstance (pa_cons ha (pa_cons (pe_tup (pa_cons (pe_bltn (v := .ty (tName t)) g1 hm1 v1 rfl n1 d1) (pa_cons (pe_bltn (v := .ty (tName u)) g2 hm2 v2 rfl n2 d2) (pa_cons (pe_bltn (v := .ty (tName w)) g3 hm3 v3 rfl n3 d3) pa_nil hs5) hs4) hs3)) pa_nil hs2) hs1) (by decide) (by decide) hs1 hpl).imp fun σ H Q ⟨ρ, μ, S, R, Rx, at_, h, ok, ox⟩ => ?_
  refine ⟨ρ, μ, S, _, Rx, at_, h, fun d S' v μ' H' h' e s r => ?_, ox⟩
  refine ⟨by show 3 ≤ sizeLine; decide, fun tp htp => ?_⟩
  have e' : Ext X.K H' μ' (upd H' tp (.tup [.ty (tName t), .ty (tName u), .ty (tName w)])) μ' := Ext.fresh htp fun _ _ h => h
  have s' := s.tup (o := .tup [.ty (tName t), .ty (tName u), .ty (tName w)]) htp
  obtain ⟨k, h', hk, ty⟩ := kind_of s' (r.mono e') h'
  refine ⟨v, tp, _, _, _, _, rfl, upd_same, .cons (.ty _) (.cons (.ty _) (.cons (.ty _) .nil)), ty, ?_, ok _ _ _ _ _ h' (e.trans e') s' (.bl _)⟩
  have k1 := kit_ty (K := X.K) (kit_is k hk t a1.1 a1.2)
  have k2 := kit_ty (K := X.K) (kit_is k hk u a2.1 a2.2)
  have k3 := kit_ty (K := X.K) (kit_is k hk w a3.1 a3.2)
  refine kitAny_cons k1 (fun z => ?_) (fun z => by rw [z]; rfl)
  rw [z, Bool.false_or]
  refine kitAny_cons k2 (fun z => ?_) (fun z => by rw [z]; rfl)
  rw [z, Bool.false_or]
  exact kitAny_cons k3 (fun z => by rw [z]; exact kitAny_nil) (fun z => z)
end
end DL
namespace DL
open PySem PySem.Spec PyProof.Rows L2
variable [PWd]

/-! ### dicts: what stands at a key -/
mutual
def beqD : D → D → Bool
  | .non, .non => true
  | .bl a, .bl b => a == b
  | .int a, .int b => decide (a = b)
  | .str a, .str b => decide (a = b)
  | .tup a, .tup b => beqDs a b
  | .ref a, .ref b => decide (a = b)
  | .fn a, .fn b => decide (a = b)
  | _, _ => false
def beqDs : List D → List D → Bool
  | [], [] => true
  | x :: r, y :: q => beqD x y && beqDs r q
  | _, _ => false
end
mutual
theorem beqD_self : ∀ a : D, beqD a a = true
  | .non => by simp [beqD]
  | .bl a => by simp [beqD]
  | .int a => by simp [beqD]
  | .str a => by simp [beqD]
  | .tup a => by rw [beqD]; exact beqDs_self a
  | .ref a => by simp [beqD]
  | .fn a => by simp [beqD]
theorem beqDs_self : ∀ a : List D, beqDs a a = true
  | [] => by simp [beqDs]
  | x :: r => by rw [beqDs, beqD_self x, beqDs_self r]; rfl
end
mutual
theorem eq_of_beqD : ∀ a b : D, beqD a b = true → a = b
  | .tup a, .tup b, h => by rw [beqD] at h; rw [eq_of_beqDs a b h]
  | .non, b, h => by cases b <;> simp [beqD] at h <;> rfl
  | .bl a, b, h => by cases b <;> simp [beqD] at h <;> rw [h]
  | .int a, b, h => by cases b <;> simp [beqD] at h <;> rw [h]
  | .str a, b, h => by cases b <;> simp [beqD] at h <;> rw [h]
  | .ref a, b, h => by cases b <;> simp [beqD] at h <;> rw [h]
  | .fn a, b, h => by cases b <;> simp [beqD] at h <;> rw [h]
  | .tup a, .non, h => by simp [beqD] at h
  | .tup a, .bl _, h => by simp [beqD] at h
  | .tup a, .int _, h => by simp [beqD] at h
  | .tup a, .str _, h => by simp [beqD] at h
  | .tup a, .ref _, h => by simp [beqD] at h
  | .tup a, .fn _, h => by simp [beqD] at h
theorem eq_of_beqDs : ∀ a b : List D, beqDs a b = true → a = b
  | [], [], _ => rfl
  | x :: r, y :: q, h => by
    rw [beqDs, Bool.and_eq_true] at h
    rw [eq_of_beqD x y h.1, eq_of_beqDs r q h.2]
  | [], _ :: _, h => by simp [beqDs] at h
  | _ :: _, [], h => by simp [beqDs] at h
end
theorem beqD_iff {a b : D} : beqD a b = true ↔ a = b := ⟨eq_of_beqD a b, fun h => h ▸ beqD_self a⟩
instance : DecidableEq D := fun a b => if h : beqD a b = true then isTrue (eq_of_beqD a b h) else isFalse fun e => h (e ▸ beqD_self a)
theorem beqD_ne {a b : D} (h : a ≠ b) : beqD a b = false := by
  cases e : beqD a b with
  | true => exact absurd (eq_of_beqD _ _ e) h
  | false => rfl
mutual
theorem nkD_inj : ∀ (a b : D) (k : NestedKey), nkD a = some k → nkD b = some k → a = b
  | .non, b, k, h1, h2 => by
    cases b <;> simp only [nkD] at h1 h2 <;> cases h1 <;> first | rfl | (cases h2; done) | (obtain ⟨_, _, z⟩ := Option.map_eq_some_iff.mp h2; cases z)
  | .int i, b, k, h1, h2 => by
    cases b <;> simp only [nkD] at h1 h2 <;> cases h1 <;> first | (cases h2; rfl) | (cases h2; done) | (obtain ⟨_, _, z⟩ := Option.map_eq_some_iff.mp h2; cases z)
  | .str i, b, k, h1, h2 => by
    cases b <;> simp only [nkD] at h1 h2 <;> cases h1 <;> first | (cases h2; rfl) | (cases h2; done) | (obtain ⟨_, _, z⟩ := Option.map_eq_some_iff.mp h2; cases z)
  | .bl _, b, k, h1, h2 => by simp [nkD] at h1
  | .ref _, b, k, h1, h2 => by simp [nkD] at h1
  | .fn _, b, k, h1, h2 => by simp [nkD] at h1
  | .tup xs, b, k, h1, h2 => by
    simp only [nkD] at h1
    obtain ⟨ks, e1, rfl⟩ := Option.map_eq_some_iff.mp h1
    cases b <;> simp only [nkD] at h2 <;> first | (cases h2; done) | skip
    obtain ⟨ks', e2, z⟩ := Option.map_eq_some_iff.mp h2
    cases z
    rw [nksD_inj xs _ ks e1 e2]
theorem nksD_inj : ∀ (a b : List D) (k : List NestedKey), nksD a = some k → nksD b = some k → a = b
  | [], [], _, _, _ => rfl
  | [], y :: q, k, h1, h2 => by
    simp only [nksD] at h1 h2
    cases h1
    split at h2 <;> cases h2
  | x :: r, [], k, h1, h2 => by
    simp only [nksD] at h1 h2
    cases h2
    split at h1 <;> cases h1
  | x :: r, y :: q, k, h1, h2 => by
    simp only [nksD] at h1 h2
    split at h1
    · rename_i a b ea eb
      cases h1
      split at h2
      · rename_i a' b' ea' eb'
        cases h2
        rw [nkD_inj x y _ ea ea', nksD_inj r q _ eb eb']
      · cases h2
    · cases h1
end
/-- what stands at a key -/
def look (kvs : List (D × D)) (k : D) : Option D := (kvs.find? fun p => beqD p.1 k).map (·.2)
/-- in its place, or at the end -/
def putP (kvs : List (D × D)) (k v : D) : List (D × D) := if (look kvs k).isSome then kvs.map (fun p => if beqD p.1 k then (p.1, v) else p) else kvs ++ [(k, v)]
theorem look_nil {k : D} : look [] k = none := rfl
theorem look_pos {p : D × D} {r : List (D × D)} {k : D} (e : p.1 = k) : look (p :: r) k = some p.2 := by
  unfold look
  rw [List.find?_cons, e, beqD_self]
  rfl
theorem look_neg {p : D × D} {r : List (D × D)} {k : D} (e : p.1 ≠ k) : look (p :: r) k = look r k := by
  unfold look
  rw [List.find?_cons, beqD_ne e]
theorem look_cons {p : D × D} {r : List (D × D)} {k : D} : look (p :: r) k = if p.1 = k then some p.2 else look r k := by
  split
  · exact look_pos ‹_›
  · exact look_neg ‹_›
theorem look_snoc {k j v : D} : ∀ {kvs : List (D × D)}, look (kvs ++ [(k, v)]) j = (look kvs j).or (if k = j then some v else none)
  | [] => by
    rw [List.nil_append, look_cons]
    rfl
  | p :: r => by
    rw [List.cons_append, look_cons, look_cons, look_snoc]
    split <;> simp
theorem look_map {k j v : D} : ∀ {kvs : List (D × D)}, look (kvs.map fun p => if beqD p.1 k then (p.1, v) else p) j = (look kvs j).map fun x => if k = j then v else x
  | [] => rfl
  | p :: r => by
    rw [List.map_cons, look_cons, look_cons, look_map]
    by_cases h : p.1 = k
    · rw [if_pos (beqD_iff.mpr h)]
      by_cases h2 : p.1 = j
      · rw [if_pos h2, if_pos h2, Option.map_some, if_pos (h.symm.trans h2)]
      · rw [if_neg h2, if_neg h2]
    · have hb : (if beqD p.1 k = true then (p.1, v) else p) = p := if_neg (by rw [beqD_ne h]; simp)
      rw [hb]
      by_cases h2 : p.1 = j
      · rw [if_pos h2, if_pos h2, Option.map_some, if_neg (fun z => h (h2.trans z.symm))]
      · rw [if_neg h2, if_neg h2]
theorem look_put {kvs : List (D × D)} {k j v : D} : look (putP kvs k v) j = if k = j then some v else look kvs j := by
  unfold putP
  split
  · rename_i h
    rw [look_map]
    by_cases e : k = j
    · subst e
      rw [if_pos rfl]
      cases q : look kvs k with
      | none => rw [q] at h; cases h
      | some x => simp
    · rw [if_neg e]
      cases look kvs j <;> simp [e]
  · rename_i h
    rw [look_snoc]
    by_cases e : k = j
    · subst e
      rw [if_pos rfl]
      cases q : look kvs k with
      | none => simp
      | some x => rw [q] at h; simp at h
    · rw [if_neg e, if_neg e]
      cases look kvs j <;> rfl
theorem put_new {kvs : List (D × D)} {k v : D} (h : look kvs k = none) : putP kvs k v = kvs ++ [(k, v)] := by
  unfold putP
  rw [h]
  rfl
theorem put_len {kvs : List (D × D)} {k v : D} : (putP kvs k v).length ≤ kvs.length + 1 := by
  unfold putP
  split <;> simp
theorem kN_inj {a b : Key} (h : kN a = kN b) : a = b := by
  cases a <;> cases b <;> simp [kN] at h <;> rw [h]
section
variable {K : PySem.W.Frag} {H : Hp} {μ : List Addr} {P : Program}
/-- pairs beside a table of leaves -/
abbrev RL (K : PySem.W.Frag) (H : Hp) (μ : List Addr) : List (D × D) → List (Key × Value) → Prop := Paired fun p u => nkD p.1 = some (kN u.1) ∧ ∃ v, Rep K H μ p.2 v ∧ RelV v u.2
/-- .. of tuples -/
abbrev RT (K : PySem.W.Frag) (H : Hp) (μ : List Addr) : List (D × D) → List (NestedKey × Addr × Value) → Prop := Paired fun p u => nkD p.1 = some u.1 ∧ sortK true u.1 = true ∧ Rep K H μ p.1 (.ref u.2.1) ∧ ∃ v, Rep K H μ p.2 v ∧ RelV v u.2.2
theorem rep_leaf {d : D} {v : V} {k : NestedKey} (r : Rep K H μ d v) (h : nkD d = some k) (s : sortK false k = true) : ∃ key : Key, k = kN key ∧ v = kV key := by
  cases r with
  | non => simp only [nkD] at h; cases h; cases s
  | bl b => simp [nkD] at h
  | int i => simp only [nkD] at h; cases h; exact ⟨.inl i, rfl, rfl⟩
  | str x => simp only [nkD] at h; cases h; exact ⟨.inr x, rfl, rfl⟩
  | tup t q =>
    simp only [nkD] at h
    obtain ⟨ks, _, rfl⟩ := Option.map_eq_some_iff.mp h
    simp [sortK] at s
  | ref g => simp [nkD] at h
  | fn x => simp [nkD] at h
theorem rep_tupk {d : D} {v : V} {k : NestedKey} (r : Rep K H μ d v) (h : nkD d = some k) (s : sortK true k = true) : ∃ b, v = .ref b := by
  cases r with
  | non => simp only [nkD] at h; cases h; cases s
  | bl b => simp [nkD] at h
  | int i => simp only [nkD] at h; cases h; cases s
  | str x => simp only [nkD] at h; cases h; cases s
  | tup t q => exact ⟨_, rfl⟩
  | ref g => exact ⟨_, rfl⟩
  | fn x => exact ⟨_, rfl⟩
theorem sort_depth {k : NestedKey} (s : sortK true k = true) : k.depth ≤ 8 := by
  cases k <;> simp [sortK] at s
  exact s
theorem leaf_us : ∀ {kvs : List (D × D)} {xs : List (NestedKey × V × V)} {es : List DictEntry}, RepKV K H μ false kvs xs → Paired EntR xs es →
    ∃ us : List (Key × Value), Pairs (mixKind P PWd.w) es us ∧ (∀ e ∈ es, ∃ k, (mixKind P PWd.w).is k e.key = true ∧ e.hash = (mixKind P PWd.w).hash k) ∧ us.map (fun u => kN u.1) = xs.map (·.1) ∧ RL K H μ kvs us
  | _, _, _, .nil, .nil => ⟨[], .nil, by simp, rfl, .nil⟩
  | _ :: _, x :: _, e :: _, .cons r q, .cons a b => by
    obtain ⟨us, h1, h2, h3, h4⟩ := leaf_us q b
    obtain ⟨n1, s1, r1, r2⟩ := r
    obtain ⟨e1, e2, e3⟩ := a
    obtain ⟨key, hk, hv⟩ := rep_leaf r1 n1 s1
    rw [hv] at e2
    have is := kV_is (P := P) (w := PWd.w) e2
    refine ⟨(key, e.val) :: us, .cons is rfl h1, fun e' he => ?_, ?_, .cons ⟨by rw [n1, hk], _, r2, e3⟩ h4⟩
    · rcases List.mem_cons.mp he with rfl | he
      · refine ⟨key, is, ?_⟩
        rw [e1, hk]
        cases key <;> rfl
      · exact h2 e' he
    · rw [List.map_cons, List.map_cons, h3, hk]
theorem tup_us : ∀ {kvs : List (D × D)} {xs : List (NestedKey × V × V)} {es : List DictEntry}, RepKV K H μ true kvs xs → Paired EntR xs es →
    ∃ us : List (NestedKey × Addr × Value), es = us.map (entryOfKey (nestedKind P PWd.w)) ∧ us.map (·.1) = xs.map (·.1) ∧ RT K H μ kvs us
  | _, _, _, .nil, .nil => ⟨[], rfl, rfl, .nil⟩
  | _ :: _, x :: _, e :: _, .cons r q, .cons a b => by
    obtain ⟨us, h1, h3, h4⟩ := tup_us q b
    obtain ⟨n1, s1, r1, r2⟩ := r
    obtain ⟨e1, e2, e3⟩ := a
    obtain ⟨c, hv⟩ := rep_tupk r1 n1 s1
    rw [hv] at e2 r1
    have e2' : e.key = .ref c := e2
    refine ⟨(x.1, c, e.val) :: us, ?_, ?_, .cons ⟨n1, s1, r1, _, r2, e3⟩ h4⟩
    · rw [List.map_cons, ← h1]
      obtain ⟨eh, ek, ev⟩ := e
      cases e2'
      cases e1
      rfl
    · rw [List.map_cons, List.map_cons, h3]
theorem leaf_back : ∀ {kvs : List (D × D)} {us : List (Key × Value)} {es : List DictEntry}, RL K H μ kvs us → Pairs (mixKind P PWd.w) es us → (∀ e ∈ es, ∃ k, (mixKind P PWd.w).is k e.key = true ∧ e.hash = (mixKind P PWd.w).hash k) →
    ∃ xs, Paired EntR xs es ∧ RepKV K H μ false kvs xs ∧ us.map (fun u => kN u.1) = xs.map (·.1)
  | _, _, _, .nil, .nil, _ => ⟨[], .nil, .nil, rfl⟩
  | p :: _, u :: _, e :: _, .cons r q, .cons a b c, hk => by
    obtain ⟨xs, h1, h2, h3⟩ := leaf_back q c fun e' he => hk e' (by simp [he])
    obtain ⟨n1, v, r1, rv⟩ := r
    obtain ⟨k', i', hh⟩ := hk e (by simp)
    have ek : k' = u.1 := (mixKind P PWd.w).inj _ _ _ i' a
    subst ek
    have rk : Rep K H μ p.1 (kV u.1) := by
      cases hu : u.1 with
      | inl i =>
        rw [hu] at n1
        rw [nkD_inj p.1 (.int i) _ n1 (by simp [nkD, kN])]
        exact .int i
      | inr i =>
        rw [hu] at n1
        rw [nkD_inj p.1 (.str i) _ n1 (by simp [nkD, kN])]
        exact .str i
    refine ⟨(kN u.1, kV u.1, v) :: xs, .cons ⟨?_, relV_key (show keyIs u.1 e.key = true from a), b ▸ rv⟩ h1, .cons ⟨n1, ?_, rk, r1⟩ h2, ?_⟩
    · rw [hh]
      cases u.1 <;> rfl
    · cases u.1 <;> rfl
    · rw [List.map_cons, List.map_cons, h3]
theorem tup_back : ∀ {kvs : List (D × D)} {us : List (NestedKey × Addr × Value)} {es : List DictEntry}, RT K H μ kvs us → es = us.map (entryOfKey (nestedKind P PWd.w)) →
    ∃ xs : List (NestedKey × V × V), Paired EntR xs es ∧ RepKV K H μ true kvs xs ∧ us.map (·.1) = xs.map (·.1)
  | _, _, _, .nil, rfl => ⟨[], .nil, .nil, rfl⟩
  | p :: _, u :: _, _, .cons r q, rfl => by
    obtain ⟨xs, h1, h2, h3⟩ := tup_back q rfl
    obtain ⟨n1, s1, r1, v, r2, rv⟩ := r
    exact ⟨(u.1, .ref u.2.1, v) :: xs, .cons ⟨rfl, rfl, rv⟩ h1, .cons ⟨n1, s1, r1, r2⟩ h2, by rw [List.map_cons, List.map_cons, h3]⟩
theorem RL.look {k : D} {key : Key} (hk : nkD k = some (kN key)) : ∀ {kvs : List (D × D)} {us : List (Key × Value)}, RL K H μ kvs us →
    (∀ d, DL.look kvs k = some d → ∃ v u, valueAt us key = some u ∧ Rep K H μ d v ∧ RelV v u) ∧ (DL.look kvs k = none → valueAt us key = none)
  | _, _, .nil => ⟨fun d h => (by rw [look_nil] at h; cases h), fun _ => rfl⟩
  | p :: _, u :: _, .cons r q => by
    obtain ⟨h1, h2⟩ := RL.look hk q
    obtain ⟨n1, v, r1, rv⟩ := r
    by_cases e : p.1 = k
    · have eu : u.1 = key := by
        rw [e, hk] at n1
        exact (kN_inj (Option.some.inj n1)).symm
      rw [look_pos e]
      refine ⟨fun d h => ?_, fun h => by cases h⟩
      cases h
      exact ⟨v, u.2, by simp [valueAt, List.find?_cons, eu], r1, rv⟩
    · have eu : u.1 ≠ key := fun z => e (nkD_inj _ _ _ n1 (by rw [hk, z]))
      rw [look_neg e]
      have : ∀ l : List (Key × Value), valueAt (u :: l) key = valueAt l key := fun l => by simp only [valueAt, List.find?_cons, decide_eq_false eu]
      rw [this]
      exact ⟨h1, h2⟩
theorem RT.look {k : D} {key : NestedKey} (hk : nkD k = some key) : ∀ {kvs : List (D × D)} {us : List (NestedKey × Addr × Value)}, RT K H μ kvs us →
    (∀ d, DL.look kvs k = some d → ∃ v a, atKey us key = some a ∧ Rep K H μ d v ∧ RelV v a.2) ∧ (DL.look kvs k = none → atKey us key = none)
  | _, _, .nil => ⟨fun d h => (by rw [look_nil] at h; cases h), fun _ => rfl⟩
  | p :: _, u :: _, .cons r q => by
    obtain ⟨h1, h2⟩ := RT.look hk q
    obtain ⟨n1, s1, rk, v, r1, rv⟩ := r
    by_cases e : p.1 = k
    · have eu : u.1 = key := by
        rw [e, hk] at n1
        exact (Option.some.inj n1).symm
      rw [look_pos e]
      refine ⟨fun d h => ?_, fun h => by cases h⟩
      cases h
      exact ⟨v, u.2, by simp [atKey, List.find?_cons, eu], r1, rv⟩
    · have eu : u.1 ≠ key := fun z => e (nkD_inj _ _ _ n1 (by rw [hk, z]))
      rw [look_neg e]
      have : ∀ l : List (NestedKey × Addr × Value), atKey (u :: l) key = atKey l key := fun l => by simp only [atKey, List.find?_cons, decide_eq_false eu]
      rw [this]
      exact ⟨h1, h2⟩
theorem any_value {κ : Type} [DecidableEq κ] {us : List (κ × Value)} {k : κ} : (us.any fun kv => decide (kv.1 = k)) = (valueAt us k).isSome := by
  induction us with
  | nil => rfl
  | cons u us ih =>
    by_cases h : u.1 = k
    · simp [valueAt, List.find?_cons, h]
    · simp only [List.any_cons, decide_eq_false h, Bool.false_or, ih]
      simp only [valueAt, List.find?_cons, decide_eq_false h]
theorem RL.put {k d : D} {v : V} {u : Value} {key : Key} (hk : nkD k = some (kN key)) (r : Rep K H μ d v) (rv : RelV v u) {kvs : List (D × D)} {us : List (Key × Value)} (R : RL K H μ kvs us) : RL K H μ (putP kvs k d) (stored us key u) := by
  have hs : (DL.look kvs k).isSome = us.any fun kv => decide (kv.1 = key) := by
    rw [any_value]
    obtain ⟨h1, h2⟩ := R.look hk
    cases e : DL.look kvs k with
    | none => rw [h2 e]; rfl
    | some x =>
      obtain ⟨_, _, e', _⟩ := h1 x e
      rw [e']
      rfl
  unfold putP stored
  rw [hs]
  split
  · rename_i hc
    clear hs hc
    induction R with
    | nil => exact .nil
    | @cons p u' kvs us r1 q ih =>
      rw [List.map_cons, List.map_cons]
      refine .cons ?_ ih
      by_cases e : p.1 = k
      · have eu : u'.1 = key := by
          have := r1.1
          rw [e, hk] at this
          exact (kN_inj (Option.some.inj this)).symm
        rw [if_pos (beqD_iff.mpr e), if_pos eu]
        exact ⟨r1.1, v, r, rv⟩
      · have eu : u'.1 ≠ key := fun z => e (nkD_inj _ _ _ r1.1 (by rw [hk, z]))
        rw [if_neg (by rw [beqD_ne e]; simp), if_neg eu]
        exact r1
  · exact Paired.snoc R ⟨hk, v, r, rv⟩
theorem RT.put {k d : D} {v : V} {u : Value} {b : Addr} {key : NestedKey} (hk : nkD k = some key) (sk : sortK true key = true) (rk : Rep K H μ k (.ref b)) (r : Rep K H μ d v) (rv : RelV v u) {kvs : List (D × D)} {us : List (NestedKey × Addr × Value)} (R : RT K H μ kvs us) : RT K H μ (putP kvs k d) (storedH us key b u) := by
  have hs : (DL.look kvs k).isSome = (atKey us key).isSome := by
    obtain ⟨h1, h2⟩ := R.look hk
    cases e : DL.look kvs k with
    | none => rw [h2 e]; rfl
    | some x =>
      obtain ⟨_, _, e', _⟩ := h1 x e
      rw [e']
      rfl
  unfold putP storedH
  rw [hs]
  split
  · rename_i hc
    clear hs hc
    induction R with
    | nil => exact .nil
    | @cons p u' kvs us r1 q ih =>
      rw [List.map_cons, List.map_cons]
      refine .cons ?_ ih
      by_cases e : p.1 = k
      · have eu : u'.1 = key := by
          have := r1.1
          rw [e, hk] at this
          exact (Option.some.inj this).symm
        rw [if_pos (beqD_iff.mpr e)]
        unfold putAt
        rw [if_pos eu]
        exact ⟨r1.1, r1.2.1, r1.2.2.1, v, r, rv⟩
      · have eu : u'.1 ≠ key := fun z => e (nkD_inj _ _ _ r1.1 (by rw [hk, z]))
        rw [if_neg (by rw [beqD_ne e]; simp)]
        unfold putAt
        rw [if_neg eu]
        exact r1
  · exact Paired.snoc R ⟨hk, sk, rk, v, r, rv⟩
end
end DL
namespace DL
open PySem PySem.Spec PyProof.Rows L2
variable [PWd]

/-! ### dicts: the machine's side -/
section
variable {X : Cx} {pins : List (Addr × Obj)} {σ : L2.St} {H : Hp} {s : Shared} {μ : List Addr}
mutual
theorem rep_nested (I : Inv X pins σ H s) : ∀ {d : D} {v : V} {u : Value} {k : NestedKey}, Rep X.K H μ d v → RelV v u → nkD d = some k → NestedIs s.heap k u
  | _, _, u, k, .non, r, h => by
    simp only [nkD] at h
    cases h
    cases (show u = Value.none from r)
    exact .none
  | _, _, u, k, .bl b, r, h => by simp [nkD] at h
  | _, _, u, k, .int i, r, h => by
    simp only [nkD] at h
    cases h
    obtain ⟨t, rfl⟩ := (show ∃ t, u = Value.int i t from r)
    exact .int i t
  | _, _, u, k, .str x, r, h => by
    simp only [nkD] at h
    cases h
    obtain ⟨t, rfl⟩ := (show ∃ t, u = Value.str x t from r)
    exact .text x t
  | _, _, u, k, .ref g, r, h => by simp [nkD] at h
  | _, _, u, k, .fn x, r, h => by simp [nkD] at h
  | _, _, u, k, .tup (ds := ds) (a := a) (vs := vs) t q, r, h => by
    simp only [nkD] at h
    obtain ⟨ks, e, rfl⟩ := Option.map_eq_some_iff.mp h
    cases (show u = Value.ref a from r)
    obtain ⟨its, rv, p, _⟩ := I.tuple t
    obtain ⟨o, ho, hc, n, hd⟩ := p
    exact .tup ho hc hd (by simpa using reps_nested I q rv e)
theorem reps_nested (I : Inv X pins σ H s) : ∀ {ds : List D} {vs : List V} {us : List Value} {ks : List NestedKey}, Reps X.K H μ ds vs → Vals vs us → nksD ds = some ks → NestedAll s.heap ks us
  | _, _, _, ks, .nil, .nil, h => by
    simp only [nksD] at h
    cases h
    exact .nil
  | _, _, _, ks, .cons r q, .cons a b, h => by
    simp only [nksD] at h
    split at h
    · rename_i e1 e2
      cases h
      exact .cons (rep_nested I r a e1) (reps_nested I q b e2)
    · cases h
end
/-- where a dict stands -/
structure DicAt (K : PySem.W.Frag) (H : Hp) (μ : List Addr) (a : Addr) (t : Bool) (ep : Nat) (kvs : List (D × D)) (xs : List (NestedKey × V × V)) : Prop where
  ho : H a = some (DicO a ep xs)
  kv : RepKV K H μ t kvs xs
theorem paired_len {α β : Type} {F : α → β → Prop} {l : List α} {m : List β} (h : Paired F l m) : l.length = m.length := by
  induction h with
  | nil => rfl
  | cons _ _ ih => simp [ih]
theorem DicAt.p {a : Addr} {t : Bool} {ep : Nat} {kvs : List (D × D)} {xs : List (NestedKey × V × V)} (I : Inv X pins σ H s) (h : DicAt X.K H μ a t ep kvs xs) : DicP a ep xs s.heap := (I.hok a _ h.ho).1
theorem DicAt.leaf {a : Addr} {ep : Nat} {kvs : List (D × D)} {xs : List (NestedKey × V × V)} (hw : X.w = PWd.w) (I : Inv X pins σ H s) (h : DicAt X.K H μ a false ep kvs xs) :
    (a == sysModules) = false ∧ kvs.length ≤ sizeLine ∧ ∃ us : List (Key × Value), s.heap.DictAt (mixKind X.prog X.w) a us ep ∧ RL X.K H μ kvs us := by
  obtain ⟨hl, hs, hn, o, es, ho, hx, hd, hp⟩ := h.p I
  obtain ⟨us, h1, h2, h3, h4⟩ := leaf_us (P := X.prog) h.kv hp
  rw [hw]
  refine ⟨hs, by rw [paired_len h.kv]; exact hl, us, ⟨o, es, ho, hx, hd, fun e he => h2 e (by simpa using he), h1, ?_⟩, h4⟩
  have : (us.map fun u => kN u.1).Nodup := by rw [h3]; exact hn
  rw [show (us.map fun u => kN u.1) = (us.map (·.1)).map kN by rw [List.map_map]; rfl] at this
  exact List.Pairwise.of_map kN (fun _ _ hne e => hne (congrArg kN e)) this
theorem DicAt.tup {a : Addr} {ep : Nat} {kvs : List (D × D)} {xs : List (NestedKey × V × V)} (hw : X.w = PWd.w) (I : Inv X pins σ H s) (h : DicAt X.K H μ a true ep kvs xs) :
    (a == sysModules) = false ∧ kvs.length ≤ sizeLine ∧ ∃ us : List (NestedKey × Addr × Value), s.heap.DictOfH (nestedKind X.prog X.w) a us ∧ RT X.K H μ kvs us := by
  obtain ⟨hl, hs, hn, o, es, ho, hx, hd, hp⟩ := h.p I
  obtain ⟨us, h1, h3, h4⟩ := tup_us (P := X.prog) h.kv hp
  rw [hw]
  refine ⟨hs, by rw [paired_len h.kv]; exact hl, us, ⟨o, es, ep, ho, hx, hd, h1, ?_, by rw [h3]; exact hn⟩, h4⟩
  clear h1 h3
  induction h4 with
  | nil => simp
  | cons r q ih =>
    intro y hy
    have hall : ∀ {kvs : List (D × D)} {us : List (NestedKey × Addr × Value)}, RT X.K H μ kvs us → ∀ y ∈ us, (nestedKind X.prog PWd.w).is s.heap y.1 y.2.1 := by
      intro kvs us R
      induction R with
      | nil => simp
      | cons r q ih =>
        intro y hy
        rcases List.mem_cons.mp hy with rfl | hy
        · exact ⟨rep_nested I r.2.2.1 rfl r.1, sort_depth r.2.1⟩
        · exact ih y hy
    exact hall (.cons r q) y hy
end
/-- a dict's new object -/
theorem dicO_ok {X : Cx} {H : Hp} {h : Heap} {a : Addr} {ep : Nat} {xs : List (NestedKey × V × V)} (d : DicP a ep xs h) : ObjOk X.prog X.w H h a (DicO a ep xs) := by
  refine ⟨d, ?_, fun h1 h2 hp hk => ?_⟩
  · obtain ⟨_, _, _, o, es, ho, _⟩ := d
    exact ⟨o, ho⟩
  · obtain ⟨hl, hs, hn, o, es, ho, r⟩ := hp
    exact ⟨hl, hs, hn, o, es, hk o ho, r⟩
def keyB (t : Bool) (k : D) : Bool := match nkD k with
  | some nk => sortK t nk
  | none => false
theorem keyB_some {t : Bool} {k : D} (h : keyB t k = true) : ∃ nk, nkD k = some nk ∧ sortK t nk = true := by
  unfold keyB at h
  split at h
  · exact ⟨_, ‹_›, h⟩
  · cases h
/-- back from a table -/
theorem back_leaf {X : Cx} {h : Heap} {K : PySem.W.Frag} {H : Hp} {μ : List Addr} {a : Addr} {kvs : List (D × D)} {us : List (Key × Value)} (hw : X.w = PWd.w) (hl : kvs.length ≤ sizeLine) (hs : (a == sysModules) = false)
    (d : h.DictOf (mixKind X.prog X.w) a us) (R : RL K H μ kvs us) : ∃ ep xs, DicP a ep xs h ∧ RepKV K H μ false kvs xs := by
  obtain ⟨o, es, ep, ho, hx, hd, hk, hp, hn⟩ := d
  rw [hw] at hk hp
  obtain ⟨xs, h1, h2, h3⟩ := leaf_back R hp fun e he => hk e (by simpa using he)
  refine ⟨ep, xs, ⟨by rw [← paired_len h2]; exact hl, hs, ?_, o, es, ho, hx, hd, h1⟩, h2⟩
  rw [← h3, show (us.map fun u => kN u.1) = (us.map (·.1)).map kN by rw [List.map_map]; rfl]
  exact List.Pairwise.map kN (fun _ _ hne e => hne (kN_inj e)) hn
theorem back_tup {X : Cx} {h : Heap} {K : PySem.W.Frag} {H : Hp} {μ : List Addr} {a : Addr} {kvs : List (D × D)} {us : List (NestedKey × Addr × Value)} (hw : X.w = PWd.w) (hl : kvs.length ≤ sizeLine) (hs : (a == sysModules) = false)
    (d : h.DictOfH (nestedKind X.prog X.w) a us) (R : RT K H μ kvs us) : ∃ ep xs, DicP a ep xs h ∧ RepKV K H μ true kvs xs := by
  obtain ⟨o, es, ep, ho, hx, hd, he, _, hn⟩ := d
  rw [hw] at he
  obtain ⟨xs, h1, h2, h3⟩ := tup_back R he
  exact ⟨ep, xs, ⟨by rw [← paired_len h2]; exact hl, hs, by rw [← h3]; exact hn, o, es, ho, hx, hd, h1⟩, h2⟩
section
variable {X : Cx} {pins : List (Addr × Obj)} {σ : L2.St} {H : Hp} {s : Shared} {μ : List Addr} {a : Addr} {t : Bool} {ep : Nat} {kvs : List (D × D)} {xs : List (NestedKey × V × V)} {k d : D} {vk : V} {u : Value} {A : Around} {E : Value → Shared → Prop}
theorem room8 {n : Nat} {A : Around} (hr : Room n A) : (nestedKind X.prog X.w).room A.in1 := by
  have := hr.un
  show A.units + 1 + 8 < cLine
  omega
theorem dic_getItem {n : Nat} {Q : Value → Shared → Prop} (hr : Room n A) (hw : X.w = PWd.w) (I : Inv X pins σ H s) (h : DicAt X.K H μ a t ep kvs xs) (rk : Rep X.K H μ k vk) (ru : RelV vk u) (hk : keyB t k = true) (hl : look kvs k = some d)
    (q : ∀ v w s', Inv X pins σ H s' → Rep X.K H μ d v → RelV v w → Q w s') : wpAny (model X.prog X.w) A (getItem (.ref a) u) Q E s := by
  obtain ⟨nk, e1, e2⟩ := keyB_some hk
  cases t with
  | false =>
    obtain ⟨hs, _, us, dd, R⟩ := h.leaf hw I
    obtain ⟨key, rfl, rfl⟩ := rep_leaf rk e1 e2
    obtain ⟨v, w, hv, rv, rw_⟩ := (R.look e1).1 d hl
    exact wpAny_getItem_of (kV_is ru) dd.dictOf.mapOf hv (q v w _ (I.tok _) rv rw_)
  | true =>
    obtain ⟨hs, _, us, dd, R⟩ := h.tup hw I
    obtain ⟨b, rfl⟩ := rep_tupk rk e1 e2
    cases (show u = Value.ref b from ru)
    obtain ⟨v, p, hv, rv, rw_⟩ := (R.look e1).1 d hl
    exact wpAny_getItem_heap (room8 hr) ⟨rep_nested I rk rfl e1, sort_depth e2⟩ dd hv (q v p.2 _ (I.tok _) rv rw_)
theorem dic_in {n : Nat} {Q : Value → Shared → Prop} (hr : Room n A) (hw : X.w = PWd.w) (I : Inv X pins σ H s) (h : DicAt X.K H μ a t ep kvs xs) (rk : Rep X.K H μ k vk) (ru : RelV vk u) (hk : keyB t k = true)
    (q : ∀ s', Inv X pins σ H s' → Q (.bool (look kvs k).isSome) s') : wpAny (model X.prog X.w) A (compareOp .In u (.ref a)) Q E s := by
  obtain ⟨nk, e1, e2⟩ := keyB_some hk
  cases t with
  | false =>
    obtain ⟨hs, _, us, dd, R⟩ := h.leaf hw I
    obtain ⟨key, rfl, rfl⟩ := rep_leaf rk e1 e2
    refine wpAny_in_of (kV_is ru) hs dd.dictOf.mapOf ?_
    have e : (valueAt us key).isSome = (look kvs k).isSome := by
      obtain ⟨h1, h2⟩ := R.look e1
      cases z : look kvs k with
      | none => rw [h2 z]; rfl
      | some x => obtain ⟨_, _, y, _⟩ := h1 x z; rw [y]; rfl
    rw [e]
    exact q _ (I.tok _)
  | true =>
    obtain ⟨hs, _, us, dd, R⟩ := h.tup hw I
    obtain ⟨b, rfl⟩ := rep_tupk rk e1 e2
    cases (show u = Value.ref b from ru)
    refine wpAny_in_heap (room8 hr) ⟨rep_nested I rk rfl e1, sort_depth e2⟩ hs dd ?_
    have e : (atKey us nk).isSome = (look kvs k).isSome := by
      obtain ⟨h1, h2⟩ := R.look e1
      cases z : look kvs k with
      | none => rw [h2 z]; rfl
      | some x => obtain ⟨_, _, y, _⟩ := h1 x z; rw [y]; rfl
    rw [e]
    exact q _ (I.tok _)
theorem dic_notIn {n : Nat} {Q : Value → Shared → Prop} (hr : Room n A) (hw : X.w = PWd.w) (I : Inv X pins σ H s) (h : DicAt X.K H μ a t ep kvs xs) (rk : Rep X.K H μ k vk) (ru : RelV vk u) (hk : keyB t k = true)
    (q : ∀ s', Inv X pins σ H s' → Q (.bool (!(look kvs k).isSome)) s') : wpAny (model X.prog X.w) A (compareOp .NotIn u (.ref a)) Q E s := by
  obtain ⟨nk, e1, e2⟩ := keyB_some hk
  cases t with
  | false =>
    obtain ⟨hs, _, us, dd, R⟩ := h.leaf hw I
    obtain ⟨key, rfl, rfl⟩ := rep_leaf rk e1 e2
    refine wpAny_notIn_of (kV_is ru) hs dd.dictOf.mapOf ?_
    have e : (valueAt us key).isSome = (look kvs k).isSome := by
      obtain ⟨h1, h2⟩ := R.look e1
      cases z : look kvs k with
      | none => rw [h2 z]; rfl
      | some x => obtain ⟨_, _, y, _⟩ := h1 x z; rw [y]; rfl
    rw [e]
    exact q _ (I.tok _)
  | true =>
    obtain ⟨hs, _, us, dd, R⟩ := h.tup hw I
    obtain ⟨b, rfl⟩ := rep_tupk rk e1 e2
    cases (show u = Value.ref b from ru)
    refine wpAny_notIn_heap (room8 hr) ⟨rep_nested I rk rfl e1, sort_depth e2⟩ hs dd ?_
    have e : (atKey us nk).isSome = (look kvs k).isSome := by
      obtain ⟨h1, h2⟩ := R.look e1
      cases z : look kvs k with
      | none => rw [h2 z]; rfl
      | some x => obtain ⟨_, _, y, _⟩ := h1 x z; rw [y]; rfl
    rw [e]
    exact q _ (I.tok _)
theorem dic_setItem {n : Nat} {v : V} {r : Value} {Q : Unit → Shared → Prop} (hr : Room n A) (hw : X.w = PWd.w) (I : Inv X pins σ H s) (h : DicAt X.K H μ a t ep kvs xs) (rk : Rep X.K H μ k vk) (ru : RelV vk u) (hk : keyB t k = true) (rd : Rep X.K H μ d v) (rr : RelV v r) (hz : kvs.length < sizeLine)
    (q : ∀ ep' xs' s', Inv X pins σ (upd H a (DicO a ep' xs')) s' → RepKV X.K H μ t (putP kvs k d) xs' → Q () s') : wpAny (model X.prog X.w) A (setItem (.ref a) u r) Q E s := by
  obtain ⟨nk, e1, e2⟩ := keyB_some hk
  have hz' : (putP kvs k d).length ≤ sizeLine := by
    have := put_len (kvs := kvs) (k := k) (v := d)
    omega
  cases t with
  | false =>
    obtain ⟨hs, hl, us, dd, R⟩ := h.leaf hw I
    obtain ⟨key, rfl, rfl⟩ := rep_leaf rk e1 e2
    refine wpAny_setItem_pairs (hsz := by rw [← paired_len R]; exact hl) (kV_is ru) dd.dictOf fun h' dd' hs' => ?_
    obtain ⟨ep', xs', hp, hkv⟩ := back_leaf (X := X) hw hz' hs dd' (R.put e1 rd rr)
    have he : ∃ ob, h'.get? a = some ob := let ⟨ob, _, _, e, _⟩ := dd'; ⟨ob, e⟩
    exact q ep' xs' _ (d_write I (by rw [h.ho]; trivial) hs' he (dicO_ok hp)) hkv
  | true =>
    obtain ⟨hs, hl, us, dd, R⟩ := h.tup hw I
    obtain ⟨b, rfl⟩ := rep_tupk rk e1 e2
    cases (show u = Value.ref b from ru)
    refine wpAny_setItem_heap (hsz := by rw [← paired_len R]; exact hl) (room8 hr) ⟨rep_nested I rk rfl e1, sort_depth e2⟩ dd fun h' dd' hs' => ?_
    obtain ⟨ep', xs', hp, hkv⟩ := back_tup (X := X) hw hz' hs dd' (R.put e1 e2 rk rd rr)
    have he : ∃ ob, h'.get? a = some ob := let ⟨ob, _, _, e, _⟩ := dd'; ⟨ob, e⟩
    exact q ep' xs' _ (d_write I (by rw [h.ho]; trivial) hs' he (dicO_ok hp)) hkv
theorem DicAt.typeIs (I : Inv X pins σ H s) (h : DicAt X.K H μ a t ep kvs xs) : s.TypeIs (.ref a) "dict" := by
  obtain ⟨_, _, _, o, es, ho, hx, _⟩ := h.p I
  exact ⟨o, ho, hx.1⟩
theorem DicAt.noDict (I : Inv X pins σ H s) (h : DicAt X.K H μ a t ep kvs xs) : ∀ b, Value.ref a = .ref b → ∃ ob, s.heap.get? b = some ob ∧ ob.dict = none := fun b q => by
  cases q
  obtain ⟨_, _, _, o, es, ho, hx, _⟩ := h.p I
  exact ⟨o, ho, hx.2.1⟩
theorem dic_get1 {n : Nat} {Q : Value → Shared → Prop} (hr : Room n A) (hw : X.w = PWd.w) (I : Inv X pins σ H s) (h : DicAt X.K H μ a t ep kvs xs) (rk : Rep X.K H μ k vk) (ru : RelV vk u) (hk : keyB t k = true)
    (q : ∀ v w s', Inv X pins σ H s' → Rep X.K H μ ((look kvs k).getD .non) v → RelV v w → Q w s') : wpAny (model X.prog X.w) A (call (.builtin "dict.get") [.ref a, u]) Q E s := by
  obtain ⟨nk, e1, e2⟩ := keyB_some hk
  cases t with
  | false =>
    obtain ⟨hs, _, us, dd, R⟩ := h.leaf hw I
    obtain ⟨key, rfl, rfl⟩ := rep_leaf rk e1 e2
    refine call_meetsIn F.slot_dict_get dd.dictOf.typeIs F.entry_dict_get (F.args_dict_get_2 _ _) (meets_dict_get (mixKind X.prog X.w) a (kV_is ru) hs) ⟨_, dd.dictOf.mapOf, ?_⟩
    obtain ⟨h1, h2⟩ := R.look e1
    cases z : look kvs k with
    | none => rw [h2 z]; rw [z] at q; exact q _ _ _ (I.tok _) .non rfl
    | some x => obtain ⟨v, w, y, r1, r2⟩ := h1 x z; rw [y]; rw [z] at q; exact q _ _ _ (I.tok _) r1 r2
  | true =>
    obtain ⟨hs, _, us, dd, R⟩ := h.tup hw I
    obtain ⟨b, rfl⟩ := rep_tupk rk e1 e2
    cases (show u = Value.ref b from ru)
    refine call_meetsIn F.slot_dict_get dd.typeIs F.entry_dict_get (F.args_dict_get_2 _ _) (meetsH_dict_get (nestedKind X.prog X.w) a b hs) ⟨room8 hr, nk, us, ⟨rep_nested I rk rfl e1, sort_depth e2⟩, dd, ?_⟩
    obtain ⟨h1, h2⟩ := R.look e1
    cases z : look kvs k with
    | none => rw [h2 z]; rw [z] at q; exact q _ _ _ (I.tok _) .non rfl
    | some x => obtain ⟨v, w, y, r1, r2⟩ := h1 x z; rw [y]; rw [z] at q; exact q _ _ _ (I.tok _) r1 r2
theorem dic_get2 {n : Nat} {x : V} {ux : Value} {dx : D} {Q : Value → Shared → Prop} (hr : Room n A) (hw : X.w = PWd.w) (I : Inv X pins σ H s) (h : DicAt X.K H μ a t ep kvs xs) (rk : Rep X.K H μ k vk) (ru : RelV vk u) (hk : keyB t k = true) (rx : Rep X.K H μ dx x) (rux : RelV x ux)
    (q : ∀ v w s', Inv X pins σ H s' → Rep X.K H μ ((look kvs k).getD dx) v → RelV v w → Q w s') : wpAny (model X.prog X.w) A (call (.builtin "dict.get") [.ref a, u, ux]) Q E s := by
  obtain ⟨nk, e1, e2⟩ := keyB_some hk
  cases t with
  | false =>
    obtain ⟨hs, _, us, dd, R⟩ := h.leaf hw I
    obtain ⟨key, rfl, rfl⟩ := rep_leaf rk e1 e2
    refine call_meetsIn F.slot_dict_get dd.dictOf.typeIs F.entry_dict_get (F.args_dict_get_3 _ _ _) (meets_dict_get_default (mixKind X.prog X.w) a (kV_is ru) hs ux) ⟨_, dd.dictOf.mapOf, ?_⟩
    obtain ⟨h1, h2⟩ := R.look e1
    cases z : look kvs k with
    | none => rw [h2 z]; rw [z] at q; exact q _ _ _ (I.tok _) rx rux
    | some y => obtain ⟨v, w, y, r1, r2⟩ := h1 y z; rw [y]; rw [z] at q; exact q _ _ _ (I.tok _) r1 r2
  | true =>
    obtain ⟨hs, _, us, dd, R⟩ := h.tup hw I
    obtain ⟨b, rfl⟩ := rep_tupk rk e1 e2
    cases (show u = Value.ref b from ru)
    refine call_meetsIn F.slot_dict_get dd.typeIs F.entry_dict_get (F.args_dict_get_3 _ _ _) (meetsH_dict_get_default (nestedKind X.prog X.w) a b hs ux) ⟨room8 hr, nk, us, ⟨rep_nested I rk rfl e1, sort_depth e2⟩, dd, ?_⟩
    obtain ⟨h1, h2⟩ := R.look e1
    cases z : look kvs k with
    | none => rw [h2 z]; rw [z] at q; exact q _ _ _ (I.tok _) rx rux
    | some y => obtain ⟨v, w, y, r1, r2⟩ := h1 y z; rw [y]; rw [z] at q; exact q _ _ _ (I.tok _) r1 r2
end
end DL
namespace DL
open PySem PySem.Spec PyProof.Rows L2
variable [PWd]

/-! ### dicts: looks at the store -/
inductive dgetAt (n : Nat) (k : D) (S : Sto) (z : D → Prop) : Prop
  | mk (t : Bool) (ep : Nat) (kvs : List (D × D)) (d : D) (h : S[n]? = some (.dic t ep kvs)) (hk : keyB t k = true) (hl : look kvs k = some d) (hz : z d)
inductive dicAt (n : Nat) (S : Sto) (z : Bool → List (D × D) → Prop) : Prop
  | mk (t : Bool) (ep : Nat) (kvs : List (D × D)) (h : S[n]? = some (.dic t ep kvs)) (hz : z t kvs)
inductive dputAt (n : Nat) (k d : D) (S : Sto) (z : Sto → Prop) : Prop
  | mk (t : Bool) (ep : Nat) (kvs : List (D × D)) (h : S[n]? = some (.dic t ep kvs)) (hk : keyB t k = true) (hs : kvs.length < sizeLine) (hz : ∀ ep', z (S.set n (.dic t ep' (putP kvs k d))))
theorem dget_at {n : Nat} {k : D} {S : Sto} {z : D → Prop} {t : Bool} {ep : Nat} {kvs : List (D × D)} {d : D} (h : S[n]? = some (.dic t ep kvs)) (hk : keyB t k = true) (hl : look kvs k = some d) (hz : z d) : dgetAt n k S z := .mk t ep kvs d h hk hl hz
theorem dic_at {n : Nat} {S : Sto} {z : Bool → List (D × D) → Prop} {t : Bool} {ep : Nat} {kvs : List (D × D)} (h : S[n]? = some (.dic t ep kvs)) (hz : z t kvs) : dicAt n S z := .mk t ep kvs h hz
theorem dput_at {n : Nat} {k d : D} {S : Sto} {z : Sto → Prop} {t : Bool} {ep : Nat} {kvs : List (D × D)} (h : S[n]? = some (.dic t ep kvs)) (hk : keyB t k = true) (hs : kvs.length < sizeLine) (hz : ∀ ep', z (S.set n (.dic t ep' (putP kvs k d)))) : dputAt n k d S z := .mk t ep kvs h hk hs hz
theorem Sim.dic {K : PySem.W.Frag} {H : Hp} {μ : List Addr} {S : Sto} {n : Nat} {p : Addr} {t : Bool} {ep : Nat} {kvs : List (D × D)} (s : Sim K H μ S) (h : μ[n]? = some p) (e : S[n]? = some (.dic t ep kvs)) : ∃ xs, DicAt K H μ p t ep kvs xs := by
  obtain ⟨xs, h1, h2⟩ := s.ob n p _ h e
  exact ⟨xs, h1, h2⟩
theorem Sim.newDic {K : PySem.W.Frag} {H : Hp} {μ : List Addr} {S : Sto} {p : Addr} {t : Bool} {ep : Nat} {kvs : List (D × D)} {xs : List (NestedKey × V × V)} (s : Sim K H μ S) (hp : H p = none) (r : RepKV K H μ t kvs xs) :
    Ext K H μ (upd H p (DicO p ep xs)) (μ ++ [p]) ∧ Sim K (upd H p (DicO p ep xs)) (μ ++ [p]) (S ++ [.dic t ep kvs]) ∧ Rep K (upd H p (DicO p ep xs)) (μ ++ [p]) (.ref S.length) (.ref p) :=
  ⟨Ext.new hp, s.new hp ⟨xs, upd_same, r.mono (Ext.new hp)⟩, .ref (by rw [← s.len]; simp)⟩
theorem Sim.setDic {K : PySem.W.Frag} {H : Hp} {μ : List Addr} {S : Sto} {n : Nat} {p : Addr} {t : Bool} {ep ep' : Nat} {kvs kvs' : List (D × D)} {xs' : List (NestedKey × V × V)} (s : Sim K H μ S) (h : μ[n]? = some p) (e : S[n]? = some (.dic t ep kvs)) (r : RepKV K H μ t kvs' xs') :
    Ext K H μ (upd H p (DicO p ep' xs')) μ ∧ Sim K (upd H p (DicO p ep' xs')) μ (S.set n (.dic t ep' kvs')) := by
  have e1 : Ext K H μ (upd H p (DicO p ep' xs')) μ := Ext.writeAt s h e rfl
  exact ⟨e1, s.write (o := DicO p ep' xs') (ob' := .dic t ep' kvs') h e rfl rfl ⟨xs', upd_same, r.mono e1⟩⟩
/-! ### d[k], k in d, d[k] = v, d.get -/
def rDicIx (K : PySem.W.Frag) : R2 := fun x y H Q => ∃ a t ep kvs xs μ k d, x = .ref a ∧ DicAt K H μ a t ep kvs xs ∧ Rep K H μ k y ∧ keyB t k = true ∧ look kvs k = some d ∧ ∀ v, Rep K H μ d v → Q v H
theorem ix_dic {X : Cx} {n : Nat} (hr : Room n X.A) (hw : X.w = PWd.w) : IxR X (rDicIx X.K) := by
  intro value slice pins s σ H x y v u Q I rx ry h hs
  obtain ⟨a, t, ep, kvs, xs, μ, k, d, rfl, hd, rk, hk, hl, q⟩ := h
  cases (show v = Value.ref a from rx)
  exact tail_any (hd.typeIs I) slot_dict_getitem.lookup (dic_getItem hr hw I hd rk ry hk hl fun v w s' I' r1 r2 => ⟨v, H, I', r2, q v r1⟩) hs
def rDicIn (K : PySem.W.Frag) (z : Bool) : R2 := fun x y H Q => ∃ a t ep kvs xs μ k, y = .ref a ∧ DicAt K H μ a t ep kvs xs ∧ Rep K H μ k x ∧ keyB t k = true ∧ Q (.bl ((look kvs k).isSome == z)) H
theorem op_dicIn {X : Cx} {n : Nat} (hr : Room n X.A) (hw : X.w = PWd.w) : OpR X (compareOp .In) (rDicIn X.K true) := by
  intro pins s σ H x y v u Q I rx ry h
  obtain ⟨a, t, ep, kvs, xs, μ, k, rfl, hd, rk, hk, q⟩ := h
  cases (show u = Value.ref a from ry)
  rw [beq_true] at q
  exact dic_in hr hw I hd rk rx hk fun s' I' => ⟨.bl _, H, I', rfl, q⟩
theorem op_dicNotIn {X : Cx} {n : Nat} (hr : Room n X.A) (hw : X.w = PWd.w) : OpR X (compareOp .NotIn) (rDicIn X.K false) := by
  intro pins s σ H x y v u Q I rx ry h
  obtain ⟨a, t, ep, kvs, xs, μ, k, rfl, hd, rk, hk, q⟩ := h
  cases (show u = Value.ref a from ry)
  rw [beq_false] at q
  exact dic_notIn hr hw I hd rk rx hk fun s' I' => ⟨.bl _, H, I', rfl, q⟩
def rDicSet (K : PySem.W.Frag) : V → V → V → Hp → (Hp → Prop) → Prop := fun o i v H Q => ∃ a t ep kvs xs μ k d, o = .ref a ∧ DicAt K H μ a t ep kvs xs ∧ Rep K H μ k i ∧ keyB t k = true ∧ Rep K H μ d v ∧ kvs.length < sizeLine ∧
  ∀ ep' xs', RepKV K H μ t (putP kvs k d) xs' → Q (upd H a (DicO a ep' xs'))
theorem set_dic {X : Cx} {n : Nat} (hr : Room n X.A) (hw : X.w = PWd.w) : PSet X (rDicSet X.K) := by
  intro pins s σ H o i v ov iv u Q I ro ri rv h
  obtain ⟨a, t, ep, kvs, xs, μ, k, d, rfl, hd, rk, hk, rd, hz, q⟩ := h
  cases (show ov = Value.ref a from ro)
  exact dic_setItem hr hw I hd rk ri hk rd rv hz fun ep' xs' s' I' r' => ⟨_, I', q ep' xs' r'⟩
theorem pset_or {X : Cx} {r r' : V → V → V → Hp → (Hp → Prop) → Prop} (h : PSet X r) (h' : PSet X r') : PSet X (fun o i v H Q => r o i v H Q ∨ r' o i v H Q) := by
  intro pins s σ H o i v ov iv u Q I ro ri rv q
  rcases q with q | q
  · exact h pins s σ H o i v ov iv u Q I ro ri rv q
  · exact h' pins s σ H o i v ov iv u Q I ro ri rv q
def eGet1 (to_ ta : TD) : TD := fun Rx ρ S R => to_ Rx ρ S fun o S1 => match o with
  | .ref n => dicAt n S1 (fun _ _ => True) ∧ ta Rx ρ S1 fun k S2 => dicAt n S2 fun t kvs => keyB t k = true ∧ R ((look kvs k).getD .non) S2
  | _ => False
def eGet2 (to_ ta tb : TD) : TD := fun Rx ρ S R => to_ Rx ρ S fun o S1 => match o with
  | .ref n => dicAt n S1 (fun _ _ => True) ∧ ta Rx ρ S1 fun k S2 => tb Rx ρ S2 fun d S3 => dicAt n S3 fun t kvs => keyB t k = true ∧ R ((look kvs k).getD d) S3
  | _ => False
end DL
namespace DL
open PySem PySem.Spec PyProof.Rows L2
variable [PWd]

abbrev TDO := RX → Ev → Sto → (Option Int → Sto → Prop) → Prop
def oNone : TDO := fun _ _ S R => R none S
def oSome (t : TD) : TDO := fun Rx ρ S R => t Rx ρ S fun d S1 => match d with
  | .int i => R (some i) S1
  | _ => False
def OkO (K : PySem.W.Frag) (H : Hp) (μ : List Addr) (R : Option Int → Sto → Prop) (Q : Option Int → Hp → Prop) : Prop := ∀ o S' μ' H', R o S' → Ext K H μ H' μ' → Sim K H' μ' S' → Q o H'
def dO (K : PySem.W.Frag) (W : WX) (t : TDO) : TO := fun σ H Q => ∃ ρ μ S R Rx, At K σ H ρ μ S ∧ t Rx ρ S R ∧ OkO K H μ R Q ∧ OkX K H μ Rx (wAt W σ)
theorem _root_.L2.PO.imp {X : Cx} {e : Option Expr} {t t' : TO} (h : PO X e t) (i : ∀ σ H Q, t' σ H Q → t σ H Q) : PO X e t' := ⟨fun pins s σ H Q I q => h.run pins s σ H Q I (i σ H Q q)⟩
def cutD (xs : List D) (lo hi : Option Int) : List D := (xs.drop (HT.sIx xs.length 0 lo)).take (HT.sIx xs.length xs.length hi - HT.sIx xs.length 0 lo)
def sliceD (x : D) (lo hi : Option Int) (S : Sto) (R : RD) : Prop := match x with
  | .str z => z.length ≤ sizeLine ∧ R (.str (cutS z lo hi)) S
  | .tup xs => R (.tup (cutD xs lo hi)) S
  | .ref n => lstAt n S fun xs => R (.ref S.length) (S ++ [.lst (cutD xs lo hi)])
  | _ => False
def eSlice (t : TD) (tl th : TDO) : TD := fun Rx ρ S R => t Rx ρ S fun x S1 => tl Rx ρ S1 fun lo S2 => th Rx ρ S2 fun hi S3 => sliceD x lo hi S3 R
def eRev (t : TD) : TD := fun Rx ρ S R => t Rx ρ S fun x S1 => match x with
  | .ref n => lstAt n S1 fun xs => R (.ref S1.length) (S1 ++ [.lst xs.reverse])
  | _ => False
def ixD : OD := fun x y S R => match y with
  | .int i => match x with
    | .tup xs => ixAt xs i fun d => R d S
    | .str z => z.length ≤ sizeLine ∧ (match atI z.cps.toList i with
      | some c => R (.str ⟨#[c]⟩) S
      | none => False)
    | .ref n => lstAt n S fun xs => ixAt xs i fun d => R d S
    | _ => False
  | .str z => match x with
    | .ref n => dgetAt n (.str z) S fun d => R d S
    | _ => False
  | .tup zs => match x with
    | .ref n => dgetAt n (.tup zs) S fun d => R d S
    | _ => False
  | _ => False
def appD (d : D) (n : Nat) (S : Sto) (R : RD) : Prop := mlstAt n S fun xs => xs.length < sizeLine ∧ R .non (S.set n (.lst (xs ++ [d])))
def eAppend (to_ ta : TD) : TD := fun Rx ρ S R => to_ Rx ρ S fun o S1 => match o with
  | .ref n => mlstAt n S1 (fun _ => True) ∧ ta Rx ρ S1 fun d S2 => appD d n S2 R
  | _ => False
/-- the last item goes -/
def popK (xs : List D) (k : D → Prop) : Prop := match xs[xs.length - 1]? with
  | some d => k d
  | none => False
def ePop (to_ : TD) : TD := fun Rx ρ S R => to_ Rx ρ S fun o S1 => match o with
  | .ref n => mlstAt n S1 fun xs => popK xs fun d => R d (S1.set n (.lst xs.dropLast))
  | _ => False
def popAtK (xs : List D) (i : Int) (k : D → Nat → Prop) : Prop := match ixN xs.length i with
  | some j => (match xs[j]? with
    | some d => (-(2 ^ 63) ≤ i ∧ i < 2 ^ 63) ∧ k d j
    | none => False)
  | none => False
def ePopAt (to_ ta : TD) : TD := fun Rx ρ S R => to_ Rx ρ S fun o S1 => match o with
  | .ref n => mlstAt n S1 (fun _ => True) ∧ ta Rx ρ S1 fun d S2 => match d with
    | .int i => mlstAt n S2 fun xs => popAtK xs i fun d j => R d (S2.set n (.lst (xs.eraseIdx j)))
    | _ => False
  | _ => False
def eFmt (t : TD) : TD := fun Rx ρ S R => t Rx ρ S fun x S1 => match x with
  | .str y => y.length ≤ sizeLine ∧ R (.str y) S1
  | .int i => i.natAbs.log2 < 1920 ∧ R (.str (toString i)) S1
  | _ => False
abbrev TDJ := RX → Ev → Sto → Str → (Str → Sto → Prop) → Prop
def jNil : TDJ := fun _ _ S acc R => R acc S
def jCons (t : TD) (r : TDJ) : TDJ := fun Rx ρ S acc R => t Rx ρ S fun x S1 => match x with
  | .str y => (acc ++ y).length ≤ sizeLine ∧ r Rx ρ S1 (acc ++ y) R
  | _ => False
def eJoined (j : TDJ) : TD := fun Rx ρ S R => j Rx ρ S Str.empty fun out S1 => R (.str out) S1

section
variable {X : Cx} {W : WX} {a b c o : Expr} {ta tb to_ : TD} {pos apos p2 : Pos} {es rest : List Expr} {tr tk : TDA} {n m : Nat} {lo hi : Option Expr} {tl th : TDO}
theorem do_none : PO X none (dO X.K W oNone) := po_none.imp fun σ H Q ⟨ρ, μ, S, R, Rx, at_, h, ok, ox⟩ => ok _ _ _ _ h Ext.refl at_.sim
theorem do_some (ha : PE X a (dE X.K W ta)) : PO X (some a) (dO X.K W (oSome ta)) := (po_some ha).imp fun σ H Q ⟨ρ, μ, S, R, Rx, at_, h, ok, ox⟩ => by
  refine ⟨ρ, μ, S, _, Rx, at_, h, fun d S' v μ' H' h' e s r => ?_, ox⟩
  dsimp only at h'
  split at h'
  · cases r
    exact ⟨_, rfl, ok _ _ _ _ h' e s⟩
  · exact h'.elim
theorem Reps.cut {K : PySem.W.Frag} {H : Hp} {μ : List Addr} {xs : List D} {vs : List V} (r : Reps K H μ xs vs) (l h : Option Int) : Reps K H μ (cutD xs l h) (cutV vs l h) := by
  unfold cutD cutV
  rw [r.length]
  exact (r.drop _).take _
theorem de_slice (ha : PE X a (dE X.K W ta)) (hl : PO X lo (dO X.K W tl)) (hh : PO X hi (dO X.K W th)) : PE X (.Subscript a (.Slice lo hi none p2) pos) (dE X.K W (eSlice ta tl th)) := by
  refine (pe_slice (sl_list.or (sl_tupA.or sl_str)) ha hl hh).imp fun σ H Q ⟨ρ, μ, S, R, Rx, at_, h, ok, ox⟩ => ?_
  refine ⟨ρ, μ, S, _, Rx, at_, h, fun x S1 v μ1 H1 h1 e1 s1 r1 => ?_, ox⟩
  refine ⟨ρ, μ1, S1, _, Rx, ⟨at_.env.mono e1, s1⟩, h1, fun l S2 μ2 H2 h2 e2 s2 => ?_, ox.ext e1⟩
  refine ⟨ρ, μ2, S2, _, Rx, ⟨at_.env.mono (e1.trans e2), s2⟩, h2, fun u S3 μ3 H3 h3 e3 s3 => ?_, ox.ext (e1.trans e2)⟩
  have r3 := r1.mono (e2.trans e3)
  have e := (e1.trans e2).trans e3
  replace h3 : sliceD x l u S3 R := h3
  unfold sliceD at h3
  split at h3
  · cases r3
    exact .inr (.inr ⟨_, rfl, h3.1, ok _ _ _ _ _ h3.2 e s3 (.str _)⟩)
  · rename_i xs
    cases r3 with | tup t q =>
    refine .inr (.inl ⟨_, _, rfl, t, fun hw => ?_, fun hw p hp => ?_⟩)
    · have : cutD xs l u = xs := by
        unfold cutD
        rw [q.length, hw.1, hw.2, List.drop_zero, Nat.sub_zero, ← q.length, List.take_length]
      rw [this] at h3
      exact ok _ _ _ _ _ h3 e s3 (.tup t q)
    · obtain ⟨e', s', r'⟩ := s3.newTup hp (q.cut l u)
      exact ok _ _ _ _ _ h3 (e.trans e') s' r'
  · cases r3 with | ref g =>
    obtain ⟨xs, g3, h3⟩ := lst_inv h3
    obtain ⟨vs, hv, q⟩ := s3.lstR g g3
    refine .inl ⟨_, _, rfl, hv, fun p hp => ?_⟩
    obtain ⟨e', s', r'⟩ := s3.newLst hp (q.cut l u)
    exact ok _ _ _ _ _ h3 (e.trans e') s' r'
  · exact h3.elim
theorem de_rev {k : Nat} {p1 p3 : Pos} (ha : PE X a (dE X.K W ta)) : PE X (.Subscript a (.Slice none none (some (.UnaryOp .USub (.Constant (.int 1) k p1) p2)) p3) pos) (dE X.K W (eRev ta)) := by
  refine (pe_revL ha).imp fun σ H Q ⟨ρ, μ, S, R, Rx, at_, h, ok, ox⟩ => ?_
  refine ⟨ρ, μ, S, _, Rx, at_, h, fun x S1 v μ1 H1 h1 e s r => ?_, ox⟩
  dsimp only at h1
  split at h1
  · cases r with | ref g =>
    obtain ⟨xs, g3, h1⟩ := lst_inv h1
    obtain ⟨vs, hv, q⟩ := s.lstR g g3
    refine ⟨_, _, rfl, hv, fun p hp => ?_⟩
    obtain ⟨e', s', r'⟩ := s.newLst hp q.reverse
    exact ok _ _ _ _ _ h1 (e.trans e') s' r'
  · exact h1.elim
theorem Reps.atI {K : PySem.W.Frag} {H : Hp} {μ : List Addr} {xs : List D} {vs : List V} {i : Int} {d : D} (r : Reps K H μ xs vs) (h : L2.atI xs i = some d) : ∃ v, L2.atI vs i = some v ∧ Rep K H μ d v := by
  unfold L2.atI at h ⊢
  rw [← r.length]
  cases e : ixN xs.length i with
  | none => rw [e] at h; cases h
  | some j =>
    rw [e] at h
    exact r.get h
theorem br_ix : Br2 X.K (fun x y H Q => rIx X.K x y H Q ∨ rDicIx X.K x y H Q) ixD := by
  intro x y S R vx vy μ H Q s r1 r2 h ok
  have dic : ∀ {n : Nat} {p : Addr} {k : D}, μ[n]? = some p → Rep X.K H μ k vy → vx = .ref p → dgetAt n k S (fun d => R d S) → rDicIx X.K vx vy H Q := fun {n p k} g rk e h => by
    cases h with | mk t ep kvs d h hk hl hz =>
    obtain ⟨xs, da⟩ := s.dic g h
    exact ⟨p, t, ep, kvs, xs, μ, k, d, e, da, rk, hk, hl, fun v rv => ok _ _ _ _ _ hz Ext.refl s rv⟩
  unfold ixD at h
  split at h
  · cases r2
    split at h
    · obtain ⟨d, ed, h⟩ := ix_inv h
      cases r1 with | tup t q =>
      obtain ⟨v, h1, h2⟩ := q.atI ed
      exact .inl (.inr (.inl ⟨_, _, _, _, rfl, rfl, t, h1, ok _ _ _ _ _ h Ext.refl s h2⟩))
    · obtain ⟨hl, h⟩ := h
      split at h
      · rename_i ed
        cases r1
        exact .inl (.inr (.inr ⟨_, _, _, rfl, rfl, hl, ed, ok _ _ _ _ _ h Ext.refl s (.str _)⟩))
      · exact h.elim
    · cases r1 with | ref g =>
      obtain ⟨xs, g3, h⟩ := lst_inv h
      obtain ⟨vs, hv, q⟩ := s.lstR g g3
      obtain ⟨d, ed, h⟩ := ix_inv h
      obtain ⟨v, h1, h2⟩ := q.atI ed
      exact .inl (.inl ⟨_, _, _, _, rfl, rfl, hv, h1, ok _ _ _ _ _ h Ext.refl s h2⟩)
    · exact h.elim
  · split at h
    · cases r1 with | ref g => exact .inr (dic g r2 rfl h)
    · exact h.elim
  · split at h
    · cases r1 with | ref g => exact .inr (dic g r2 rfl h)
    · exact h.elim
  · exact h.elim
theorem de_ix {k : Nat} (hr : Room k X.A) (ha : PE X a (dE X.K W ta)) (hb : PE X b (dE X.K W tb)) (hw : X.w = PWd.w := by rfl) (hs : PlainIx b := by exact fun _ _ => rfl) : PE X (.Subscript a b pos) (dE X.K W (e2 ixD ta tb)) :=
  (pe_ix (ix_seq.or (ix_dic hr hw)) ha hb hs).imp fun _ _ _ h => seq2 br_ix h

/-! ### methods of lists -/
theorem Sim.setLst {K : PySem.W.Frag} {H : Hp} {μ : List Addr} {S : Sto} {n : Nat} {p : Addr} {xs ys : List D} {us : List V} (s : Sim K H μ S) (h : μ[n]? = some p) (e : S[n]? = some (.lst xs)) (r : Reps K H μ ys us) :
    Ext K H μ (upd H p (.lst us)) μ ∧ Sim K (upd H p (.lst us)) μ (S.set n (.lst ys)) :=
  have x : Ext K H μ (upd H p (.lst us)) μ := Ext.writeAt s h e rfl
  ⟨x, s.write h e rfl rfl ⟨us, upd_same, r.mono x⟩⟩
theorem de_append (ho : PE X o (dE X.K W to_)) (ha : PE X a (dE X.K W ta)) (hbase : attributeBase o "append" X.env (eval o X.env) = eval o X.env := by rfl)
    (hfew : ((backTo pos (starEach [a] X.env)).all (fun x => !x.1) && (backToKw pos (keywordEach [] X.env)).all (fun x => x.1.isSome) && decide (([a] : List Expr).length + ([] : List Keyword).length + (if ([] : List Keyword).isEmpty then 0 else 1) < 30)) = true := by rfl)
    (hline : (apos.endLine == pos.line) = true := by rfl) (hs : starEach [a] X.env = (false, eval a X.env) :: starEach [] X.env := by rfl) (hplain : (backTo pos (starEach [] X.env)).any (·.1) = false := by rfl) :
    PE X (.Call (.Attribute o "append" apos) [a] [] pos) (dE X.K W (eAppend to_ ta)) := by
  refine (pe_bm PySem.F.plainAttrs_list PySem.F.slot_list_append PySem.F.type_list_append mt_append ho (pa_cons ha pa_nil hs) hbase hfew hline hs hplain).imp fun σ H Q ⟨ρ, μ, S, R, Rx, at_, h, ok, ox⟩ => ?_
  refine ⟨ρ, μ, S, _, Rx, at_, h, fun x S1 v μ1 H1 h1 e1 s1 r1 => ?_, ox⟩
  dsimp only at h1
  split at h1
  · cases r1 with | ref g =>
    obtain ⟨hL, h1⟩ := h1
    obtain ⟨xs0, hx, _⟩ := mlst_inv hL
    obtain ⟨vs0, hv0, _⟩ := s1.lst g hx
    refine ⟨.inl ⟨rfl, _, SqL.of hv0⟩, ρ, μ1, S1, _, Rx, ⟨at_.env.mono e1, s1⟩, h1, fun d S2 u μ2 H2 h2 e2 s2 r2 => ?_, ox.ext e1⟩
    obtain ⟨xs, g2, h2⟩ := mlst_inv h2
    have g' := e2.mu _ _ g
    obtain ⟨vs, hv, q⟩ := s2.lst g' g2
    obtain ⟨e', s'⟩ := s2.setLst g' g2 (q.append (.cons r2 .nil))
    exact ⟨_, _, _, rfl, rfl, hv, by rw [← q.length]; exact h2.1, ok _ _ _ _ _ h2.2 ((e1.trans e2).trans e') s' .non⟩
  · exact h1.elim
theorem de_pop (ho : PE X o (dE X.K W to_)) (hbase : attributeBase o "pop" X.env (eval o X.env) = eval o X.env := by rfl) (hline : (apos.endLine == pos.line) = true := by rfl) : PE X (.Call (.Attribute o "pop" apos) [] [] pos) (dE X.K W (ePop to_)) := by
  refine (pe_bm0 PySem.F.plainAttrs_list PySem.F.slot_list_pop PySem.F.type_list_pop mt_pop ho hbase hline).imp fun σ H Q ⟨ρ, μ, S, R, Rx, at_, h, ok, ox⟩ => ?_
  refine ⟨ρ, μ, S, _, Rx, at_, h, fun x S1 v μ1 H1 h1 e1 s1 r1 => ?_, ox⟩
  dsimp only at h1
  split at h1
  · cases r1 with | ref g =>
    obtain ⟨xs, g1, h1⟩ := mlst_inv h1
    obtain ⟨vs, hv, q⟩ := s1.lst g g1
    unfold popK at h1
    split at h1
    · rename_i ed
      obtain ⟨u, hu, ru⟩ := q.get ed
      obtain ⟨e', s'⟩ := s1.setLst g g1 q.dropLast
      exact ⟨.inl ⟨rfl, _, SqL.of hv⟩, _, _, _, rfl, rfl, hv, by rw [← q.length]; exact hu, ok _ _ _ _ _ h1 (e1.trans e') s' (ru.mono e')⟩
    · exact h1.elim
  · exact h1.elim
theorem Reps.eraseIdx {K : PySem.W.Frag} {H : Hp} {μ : List Addr} : ∀ {xs : List D} {vs : List V} (i : Nat), Reps K H μ xs vs → Reps K H μ (xs.eraseIdx i) (vs.eraseIdx i)
  | _, _, _, .nil => .nil
  | _, _, 0, .cons _ t => t
  | _, _, i + 1, .cons r t => .cons r (Reps.eraseIdx i t)
theorem de_popAt (ho : PE X o (dE X.K W to_)) (ha : PE X a (dE X.K W ta)) (hbase : attributeBase o "pop" X.env (eval o X.env) = eval o X.env := by rfl)
    (hfew : ((backTo pos (starEach [a] X.env)).all (fun x => !x.1) && (backToKw pos (keywordEach [] X.env)).all (fun x => x.1.isSome) && decide (([a] : List Expr).length + ([] : List Keyword).length + (if ([] : List Keyword).isEmpty then 0 else 1) < 30)) = true := by rfl)
    (hline : (apos.endLine == pos.line) = true := by rfl) (hs : starEach [a] X.env = (false, eval a X.env) :: starEach [] X.env := by rfl) (hplain : (backTo pos (starEach [] X.env)).any (·.1) = false := by rfl) :
    PE X (.Call (.Attribute o "pop" apos) [a] [] pos) (dE X.K W (ePopAt to_ ta)) := by
  refine (pe_bm PySem.F.plainAttrs_list PySem.F.slot_list_pop PySem.F.type_list_pop mt_popAt ho (pa_cons ha pa_nil hs) hbase hfew hline hs hplain).imp fun σ H Q ⟨ρ, μ, S, R, Rx, at_, h, ok, ox⟩ => ?_
  refine ⟨ρ, μ, S, _, Rx, at_, h, fun x S1 v μ1 H1 h1 e1 s1 r1 => ?_, ox⟩
  dsimp only at h1
  split at h1
  · cases r1 with | ref g =>
    obtain ⟨hL, h1⟩ := h1
    obtain ⟨xs0, hx, _⟩ := mlst_inv hL
    obtain ⟨vs0, hv0, _⟩ := s1.lst g hx
    refine ⟨.inl ⟨rfl, _, SqL.of hv0⟩, ρ, μ1, S1, _, Rx, ⟨at_.env.mono e1, s1⟩, h1, fun d S2 u μ2 H2 h2 e2 s2 r2 => ?_, ox.ext e1⟩
    dsimp only at h2
    split at h2
    · cases r2
      obtain ⟨xs, g2, h2⟩ := mlst_inv h2
      have g' := e2.mu _ _ g
      obtain ⟨vs, hv, q⟩ := s2.lst g' g2
      unfold popAtK at h2
      split at h2
      · rename_i k hk
        split at h2
        · rename_i dd hd
          obtain ⟨w, hw, rw_⟩ := q.get hd
          obtain ⟨e', s'⟩ := s2.setLst g' g2 (q.eraseIdx k)
          exact ⟨_, _, _, k, w, rfl, rfl, hv, h2.1.1, h2.1.2, by rw [← q.length]; exact (ixN_seq hk).1, hw, ok _ _ _ _ _ h2.2 ((e1.trans e2).trans e') s' (rw_.mono e')⟩
        · exact h2.elim
      · exact h2.elim
    · exact h2.elim
  · exact h1.elim

/-! ### texts -/
theorem de_fmt (ha : PE X a (dE X.K W ta)) : PE X (.FormattedValue a (-1) none pos) (dE X.K W (eFmt ta)) := by
  refine (pe_fmt ha).imp fun σ H Q ⟨ρ, μ, S, R, Rx, at_, h, ok, ox⟩ => ?_
  refine ⟨ρ, μ, S, _, Rx, at_, h, fun x S1 v μ1 H1 h1 e1 s1 r1 => ?_, ox⟩
  dsimp only at h1
  split at h1
  · cases r1
    exact .inl ⟨_, rfl, h1.1, ok _ _ _ _ _ h1.2 e1 s1 (.str _)⟩
  · cases r1
    exact .inr ⟨_, rfl, h1.1, ok _ _ _ _ _ h1.2 e1 s1 (.str _)⟩
  · exact h1.elim
inductive DJ (X : Cx) (W : WX) : List Expr → TDJ → Prop where
  | nil : DJ X W [] jNil
  | cons {e : Expr} {t : TD} {es : List Expr} {r : TDJ} (h : PE X e (dE X.K W t)) (q : DJ X W es r) : DJ X W (e :: es) (jCons t r)
theorem dj_ts {es : List Expr} {j : TDJ} (h : DJ X W es j) : ∃ ts, PJ X es ts ∧ ∀ σ H Q acc ρ μ S R Rx, At X.K σ H ρ μ S → j Rx ρ S acc R → (∀ out S' μ' H', R out S' → Ext X.K H μ H' μ' → Sim X.K H' μ' S' → Q out H') → OkX X.K H μ Rx (wAt W σ) → tJs ts acc σ H Q := by
  induction h with
  | nil => exact ⟨[], .nil, fun σ H Q acc ρ μ S R Rx at_ h ok ox => ok _ _ _ _ h Ext.refl at_.sim⟩
  | @cons e t es r h q ih =>
    obtain ⟨ts, hp, hq⟩ := ih
    refine ⟨dE X.K W t :: ts, .cons h hp, fun σ H Q acc ρ μ S R Rx at_ h ok ox => ?_⟩
    refine ⟨ρ, μ, S, _, Rx, at_, h, fun x S1 v μ1 H1 h1 e1 s1 r1 => ?_, ox⟩
    dsimp only at h1
    split at h1
    · cases r1
      exact ⟨_, rfl, h1.1, hq σ H1 Q _ ρ μ1 S1 R Rx ⟨at_.env.mono e1, s1⟩ h1.2 (fun out S' μ' H' h' e s => ok out S' μ' H' h' (e1.trans e) s) (ox.ext e1)⟩
    · exact h1.elim
theorem de_joined {v1 v2 : Expr} {rest : List Expr} {j : TDJ} (h : DJ X W (v1 :: v2 :: rest) j) : PE X (.JoinedStr (v1 :: v2 :: rest) pos) (dE X.K W (eJoined j)) := by
  obtain ⟨ts, hp, hq⟩ := dj_ts h
  exact (pe_joined hp).imp fun σ H Q ⟨ρ, μ, S, R, Rx, at_, h, ok, ox⟩ => hq σ H _ _ ρ μ S _ Rx at_ h (fun out S' μ' H' h' e s => ok _ _ _ _ _ h' e s (.str _)) ox
theorem de_joined1 (ha : PE X a (dE X.K W ta)) : PE X (.JoinedStr [a] pos) (dE X.K W ta) := pe_joined1 ha

/-! ### calls of defs -/
theorem de_call {k : Nat} {f : Addr} {fd : FuncData} {ps : List Str} {sp : DSp} {x : Str} {p : Pos} (F : FnOk X.prog X.w X.K X.mg X.base (L2.CX X.prog X.w) k f fd ps (dSp X.K n sp)) (hr : Room k X.A) (hm : X.mg x = some (.ref f)) (hk : PySem.W.keepIn X.K (.ref f) = true) (hb : Binds X.K fd ps [])
    (tk : Takes X W) (ha : PA X (a :: es) (dA X.K W n tr)) (hg : Gl X x := by rfl) (hdb : (x == ("__debug__" : Str)) = false := by decide) (he : starEach (a :: es) X.env = (false, eval a X.env) :: starEach es X.env := by rfl) (hpl : (backTo pos (starEach es X.env)).any (·.1) = false := by rfl) :
    PE X (.Call (.Name x p) (a :: es) [] pos) (dE X.K W (eCall sp tr)) := by
  refine (pe_callS F hr hg hm hk hb (fun σ => passAt tk σ) ha hdb he hpl).imp fun σ H Q ⟨ρ, μ, S, R, Rx, at_, h, ok, ox⟩ => ?_
  exact ⟨ρ, μ, S, _, Rx, at_, h, fun xs S1 vs μ1 H1 l1 h1 e1 s1 r1 => ⟨xs, μ1, S1, R, Rx, s1, r1, l1, h1.out, ok.ext e1, ox.ext e1⟩, ox⟩
theorem dk_nil : PK X [] (dA X.K W 0 aNil) := ⟨fun pos pins s σ H Q I ⟨ρ, μ, S, R, Rx, at_, h, ok, ox⟩ => pk_nil.run pos pins s σ H Q I (ok _ _ _ _ _ rfl h Ext.refl at_.sim .nil)⟩
theorem dk_cons {kws : List Keyword} {nm : Option Str} {kpos : Pos} (ha : PE X a (dE X.K W ta)) (hr : PK X kws (dA X.K W n tr)) : PK X (⟨nm, a, kpos⟩ :: kws) (dA X.K W (n + 1) (aCons ta tr)) := by
  refine ⟨fun pos pins s σ H Q I ⟨ρ, μ, S, R, Rx, at_, h, ok, ox⟩ => (pk_cons ha hr).run pos pins s σ H Q I ?_⟩
  refine ⟨ρ, μ, S, _, Rx, at_, h, fun d S' v μ' H' h' e s r => ?_, ox⟩
  refine ⟨ρ, μ', S', _, Rx, ⟨at_.env.mono e, s⟩, h', fun ds S2 vs μ2 H2 l2 h2 e2 s2 r2 => ?_, ox.ext e⟩
  exact ok _ _ _ _ _ (by rw [List.length_cons, l2]) h2 (e.trans e2) s2 (.cons (r.mono e2) r2)
theorem vals_pick {vs : List V} {us : List Value} (r : Vals vs us) : ∀ π : List Nat, Vals (pick π vs) (pick π us)
  | [] => .nil
  | i :: π => by
    unfold pick
    rw [List.filterMap_cons, List.filterMap_cons]
    cases e : vs[i]? with
    | none => rw [r.none_of e]; exact vals_pick r π
    | some v =>
      obtain ⟨u, h1, h2⟩ := r.get e
      rw [h1]
      exact .cons h2 (vals_pick r π)
theorem Reps.none_of {K : PySem.W.Frag} {H : Hp} {μ : List Addr} {xs : List D} {vs : List V} {i : Nat} (r : Reps K H μ xs vs) (e : xs[i]? = none) : vs[i]? = none := by
  have h1 := r.length
  have h2 : xs.length ≤ i := List.getElem?_eq_none_iff.mp e
  exact List.getElem?_eq_none_iff.mpr (by omega)
theorem Reps.pick {K : PySem.W.Frag} {H : Hp} {μ : List Addr} {xs : List D} {vs : List V} (r : Reps K H μ xs vs) : ∀ π : List Nat, Reps K H μ (pick π xs) (pick π vs)
  | [] => .nil
  | i :: π => by
    unfold DL.pick
    rw [List.filterMap_cons, List.filterMap_cons]
    cases e : xs[i]? with
    | none => rw [r.none_of e]; exact Reps.pick r π
    | some v =>
      obtain ⟨u, h1, h2⟩ := r.get e
      rw [h1]
      exact .cons h2 (Reps.pick r π)
theorem pick_length {α : Type} {l : List α} : ∀ {π : List Nat}, (∀ i ∈ π, i < l.length) → (pick π l).length = π.length
  | [], _ => rfl
  | i :: π, h => by
    unfold pick
    rw [List.filterMap_cons, List.getElem?_eq_getElem (h i (by simp))]
    simp only [List.length_cons]
    rw [show (List.filterMap (fun i => l[i]?) π).length = π.length from pick_length fun j hj => h j (by simp [hj])]
/-- a call with keywords: the j-th parameter is the π[j]-th of what is written -/
structure KPi (K : PySem.W.Frag) (fd : FuncData) (ps : List Str) (n : Nat) (ks : List Str) (π : List Nat) : Prop where
  to : ∀ (s : Shared) (us ws : List Value), us.length = n → ws.length = ks.length → BindsTo s fd ⟨us, ks.zip ws⟩ (ps.zip (pick π (us ++ ws)))
theorem kpi_of {K : PySem.W.Frag} {x qual : Str} {params : Arguments} {body : List Stmt} {scope : Scope} {f : Addr} {fd : FuncData} {ps ks : List Str} {π : List Nat} {n : Nat} (F : FunD K x qual params body scope [] [] f fd)
    (h : ∀ (kV doc pm : Value) (an : Option Addr) (cdv ct : Value) (us ws : List Value), us.length = n → ws.length = ks.length → bindArgs (PySem.W.fnOf x qual params body scope .none kV doc pm an cdv ct) ⟨us, ks.zip ws⟩ = pure (ps.zip (pick π (us ++ ws)))) : KPi K fd ps n ks π := by
  obtain ⟨oc, od, dV, kV, doc, pm, an, cdv, ct, osl, rfl, lk, hcd, hD, hK⟩ := F.ex
  rcases hD with ⟨_, rfl⟩ | ⟨e, _⟩
  · exact ⟨fun s us ws l1 l2 => .of_eq (h kV doc pm an cdv ct us ws l1 l2)⟩
  · exact absurd rfl e
theorem passesE {E : XK} (tk : Takes X W) (σ : L2.St) (h : E = WE W σ) : PassesAt (L2.CX X.prog X.w) X σ E := by
  subst h
  exact passAt tk σ
/-- the callee of a call with keywords runs -/
theorem run_kw {k : Nat} {f : Addr} {fd : FuncData} {ps ks : List Str} {π : List Nat} {sp : DSp} {pins : List (Addr × Obj)} {σ : L2.St} {H : Hp} {s : Shared} {Q : VK} {us ws : List Value} {vs zs : List V} {N : Nat}
    (F : FnOk X.prog X.w X.K X.mg X.base (L2.CX X.prog X.w) k f fd ps (dSp X.K N sp)) (hr : Room k X.A) (hb : KPi X.K fd ps n ks π) (tk : Takes X W) (I : Inv X pins σ H s) (r : Vals vs us) (rz : Vals zs ws) (l1 : vs.length = n) (l2 : zs.length = ks.length)
    (h : dSp X.K N sp (pick π (vs ++ zs)) H Q (WE W σ)) : wpAny (model X.prog X.w) X.A (call (.ref f) us (ks.zip ws)) (EP X pins σ Q) X.xe s := by
  refine wpAny_call (codeAny_mono (F.run X.A X.stack s H ⟨us, ks.zip ws⟩ (pick π (us ++ ws)) (pick π (vs ++ zs)) Q (WE W σ) hr I.env0 (hb.to s us ws (by rw [← r.length, l1]) (by rw [← rz.length, l2])) (vals_pick (r.append rz) π) h) fun res s' hq => ?_)
  rcases res with e | fl
  · exact passAt tk σ pins H s e s' I hq
  · rcases fl with _ | _ | _ | u
    all_goals first | exact I.after hq | exact False.elim hq
def dKw (K : PySem.W.Frag) (W : WX) (n m : Nat) (sp : DSp) (π : List Nat) (tr tk : TDA) : TE := dE K W (eCallK sp π tr tk)
theorem de_callK {k N : Nat} {f : Addr} {fd : FuncData} {ps ks : List Str} {π : List Nat} {sp : DSp} {x : Str} {p : Pos} {kws : List Keyword} (F : FnOk X.prog X.w X.K X.mg X.base (L2.CX X.prog X.w) k f fd ps (dSp X.K N sp)) (hr : Room k X.A) (hm : X.mg x = some (.ref f))
    (hk : PySem.W.keepIn X.K (.ref f) = true) (hb : KPi X.K fd ps n ks π) (hN : π.length = N) (hπ : ∀ i ∈ π, i < n + ks.length) (tks : Takes X W) (ha : PA X (a :: es) (dA X.K W n tr)) (hkw : PK X kws (dA X.K W ks.length tk)) (hg : Gl X x := by rfl)
    (hall : (backToKw pos (keywordEach kws X.env)).all (·.1.isSome) = true := by rfl) (hks : (backToKw pos (keywordEach kws X.env)).filterMap (·.1) = ks := by rfl) (hdb : (x == ("__debug__" : Str)) = false := by decide)
    (he : starEach (a :: es) X.env = (false, eval a X.env) :: starEach es X.env := by rfl) (hpl : ((backTo pos (starEach (a :: es) X.env)).any (·.1) || (backToKw pos (keywordEach kws X.env)).any (·.1.isNone)) = false := by rfl) :
    PE X (.Call (.Name x p) (a :: es) kws pos) (dE X.K W (eCallK sp π tr tk)) := by
  refine ⟨fun pins s σ H Q I ⟨ρ, μ, S, R, Rx, at_, h, ok, ox⟩ => wpAny_Call_Name_kw (ld_glob I hg hm ?_ hdb)⟩
  refine PySem.W.callWith_KW (h₀ := X.base) I.ok.mod.kin hk hall (thn (ha.run pos pins s σ H (fun vs H1 => vs.length = n ∧ dA X.K W ks.length tk σ H1 (fun zs H2 => zs.length = ks.length ∧ dSp X.K N sp (pick π (vs ++ zs)) H2 Q (WE W σ))) I ?_) fun us s1 ⟨vs, H1, I1, r, l1, q⟩ => ?_) hpl he
  · refine ⟨ρ, μ, S, _, Rx, at_, h, fun xs S1 vs μ1 H1 l1 h1 e1 s1 r1 => ⟨by rw [← r1.length, l1], ρ, μ1, S1, _, Rx, ⟨at_.env.mono e1, s1⟩, h1, fun ys S2 zs μ2 H2 l2 h2 e2 s2 r2 => ⟨by rw [← r2.length, l2], ?_⟩, ox.ext e1⟩, ox⟩
    refine ⟨_, μ2, S2, R, Rx, s2, ((r1.mono e2).append r2).pick π, ?_, h2.out, ok.ext (e1.trans e2), ox.ext (e1.trans e2)⟩
    rw [pick_length fun i hi => by rw [List.length_append, l1, l2]; exact hπ i hi, hN]
  · refine thn (hkw.run pos pins s1 σ H1 _ I1 q) fun ws s2 ⟨zs, H2, I2, rz, l2, q2⟩ => ⟨I2.kIn, ?_⟩
    rw [hks]
    exact run_kw F hr hb tks I2 r rz l1 l2 q2
/-- .. keywords alone -/
theorem de_callK0 {k N : Nat} {f : Addr} {fd : FuncData} {ps ks : List Str} {π : List Nat} {sp : DSp} {x : Str} {p : Pos} {kws : List Keyword} (F : FnOk X.prog X.w X.K X.mg X.base (L2.CX X.prog X.w) k f fd ps (dSp X.K N sp)) (hr : Room k X.A) (hm : X.mg x = some (.ref f))
    (hk : PySem.W.keepIn X.K (.ref f) = true) (hb : KPi X.K fd ps 0 ks π) (hN : π.length = N) (hπ : ∀ i ∈ π, i < ks.length) (tks : Takes X W) (hkw : PK X kws (dA X.K W ks.length tk)) (hg : Gl X x := by rfl)
    (hall : (backToKw pos (keywordEach kws X.env)).all (·.1.isSome) = true := by rfl) (hks : (backToKw pos (keywordEach kws X.env)).filterMap (·.1) = ks := by rfl) (hdb : (x == ("__debug__" : Str)) = false := by decide)
    (hpl : ((backTo pos (starEach [] X.env)).any (·.1) || (backToKw pos (keywordEach kws X.env)).any (·.1.isNone)) = false := by rfl) :
    PE X (.Call (.Name x p) [] kws pos) (dE X.K W (eCallK sp π aNil tk)) := by
  refine ⟨fun pins s σ H Q I ⟨ρ, μ, S, R, Rx, at_, h, ok, ox⟩ => wpAny_Call_Name_kw (ld_glob I hg hm ?_ hdb)⟩
  refine PySem.W.callWith_KW0 (h₀ := X.base) I.ok.mod.kin hk hall (thn (hkw.run pos pins s σ H (fun zs H2 => zs.length = ks.length ∧ dSp X.K N sp (pick π ([] ++ zs)) H2 Q (WE W σ)) I ?_) fun ws s2 ⟨zs, H2, I2, rz, l2, q2⟩ => ⟨I2.kIn, ?_⟩) hpl
  · refine ⟨ρ, μ, S, _, Rx, at_, h, fun ys S2 zs μ2 H2 l2 h2 e2 s2 r2 => ⟨by rw [← r2.length, l2], ?_⟩, ox⟩
    refine ⟨_, μ2, S2, R, Rx, s2, (Reps.append .nil r2).pick π, ?_, h2.out, ok.ext e2, ox.ext e2⟩
    rw [pick_length fun i hi => by rw [List.nil_append, l2]; exact hπ i hi, hN]
  · rw [hks]
    exact run_kw (us := []) F hr hb tks I2 .nil rz rfl l2 q2
end
end DL
namespace DL
open PySem PySem.Spec PyProof.Rows L2
variable [PWd]

/-! ### statements' readings -/
abbrev DEnds.x (E : DEnds) (ρ : Ev) : RX := fun x S => E.ex x ρ S
def sNext : TDS := fun E ρ S => E.nx ρ S
def sBreak : TDS := fun E ρ S => E.bk ρ S
def sCont : TDS := fun E ρ S => E.ct ρ S
def sSeq (t u : TDS) : TDS := fun E ρ S => t { E with nx := u E } ρ S
def sRet (te : TD) : TDS := fun E ρ S => te (E.x ρ) ρ S E.rt
def sRetN : TDS := fun E _ S => E.rt .non S
def sExpr (te : TD) : TDS := fun E ρ S => te (E.x ρ) ρ S fun _ S1 => E.nx ρ S1
def sIf (c : TDT) (t u : TDS) : TDS := fun E ρ S => c (E.x ρ) ρ S fun b S1 => ift b (t E ρ S1) (u E ρ S1)
def sSet (i : Nat) (te : TD) : TDS := fun E ρ S => te (E.x ρ) ρ S fun d S1 => E.nx (ρ.set i (some d)) S1
def sPar (i j : Nat) (ta : TDA) : TDS := fun E ρ S => ta (E.x ρ) ρ S fun xs S1 => match xs with
  | [u, v] => E.nx ((ρ.set i (some u)).set j (some v)) S1
  | _ => False
def sPar3 (i j l : Nat) (ta : TDA) : TDS := fun E ρ S => ta (E.x ρ) ρ S fun xs S1 => match xs with
  | [u, v, w] => E.nx (((ρ.set i (some u)).set j (some v)).set l (some w)) S1
  | _ => False
def sAug (i : Nat) (te : TD) (f : OD) : TDS := fun E ρ S => match ρ[i]? with
  | some (some x) => te (E.x ρ) ρ S fun y S1 => f x y S1 fun z S2 => E.nx (ρ.set i (some z)) S2
  | _ => False
def setK (xs : List D) (k : Int) (z : Nat → Prop) : Prop := match ixN xs.length k with
  | some j => z j
  | none => False
def sSetIx (to_ ti te : TD) : TDS := fun E ρ S => te (E.x ρ) ρ S fun v S1 => to_ (E.x ρ) ρ S1 fun o S2 => ti (E.x ρ) ρ S2 fun i S3 => match o, i with
  | .ref n, .int k => mlstAt n S3 fun xs => setK xs k fun j => E.nx ρ (S3.set n (.lst (xs.set j v)))
  | .ref n, .str z => dputAt n (.str z) v S3 fun S4 => E.nx ρ S4
  | .ref n, .tup zs => dputAt n (.tup zs) v S3 fun S4 => E.nx ρ S4
  | _, _ => False
def whileN (c : TDT) (t : TDS) (E : DEnds) : Nat → Ev → Sto → Prop
  | 0, _, _ => False
  | n + 1, ρ, S => c (E.x ρ) ρ S fun b S1 => ift b (t { E with nx := whileN c t E n, ct := whileN c t E n, bk := E.nx } ρ S1) (E.nx ρ S1)
def sWhile (c : TDT) (t : TDS) : TDS := fun E ρ S => ∃ n, whileN c t E n ρ S
/-! targets -/
abbrev TDG := D → Ev → Sto → (Ev → Sto → Prop) → Prop
abbrev TDGs := List D → Ev → Sto → (Ev → Sto → Prop) → Prop
def gNm (i : Nat) : TDG := fun d ρ S R => R (ρ.set i (some d)) S
def gsNil : TDGs := fun xs ρ S R => match xs with
  | [] => R ρ S
  | _ :: _ => False
def gsCons (g : TDG) (gs : TDGs) : TDGs := fun xs ρ S R => match xs with
  | x :: r => g x ρ S fun ρ1 S1 => gs r ρ1 S1 R
  | [] => False
def gTp (n : Nat) (gs : TDGs) : TDG := fun d ρ S R => match d with
  | .tup xs => xs.length = n ∧ gs xs ρ S R
  | _ => False
def sAsg (te : TD) (g : TDG) : TDS := fun E ρ S => te (E.x ρ) ρ S fun d S1 => g d ρ S1 E.nx
/-! what is walked -/
abbrev TDI := RX → Ev → Sto → (List D → (Sto → Prop) → Sto → Prop) → Prop
def noG : Sto → Prop := fun _ => True
def iSeq (t : TD) : TDI := fun Rx ρ S R => t Rx ρ S fun d S1 => match d with
  | .tup xs => R xs noG S1
  | .str z => R (z.cps.toList.map fun c => .str ⟨#[c]⟩) noG S1
  | .ref n => iterAt n S1 fun xs G => R xs G S1
  | _ => False
def rangeD (lo : Int) (n : Nat) : List D := (List.range n).map fun (i : Nat) => D.int (lo + (i : Int))
def iRange1 (t : TD) : TDI := fun Rx ρ S R => t Rx ρ S fun d S1 => match d with
  | .int j => (-(2 ^ 62) ≤ j ∧ j < 2 ^ 62) ∧ R (rangeD 0 j.toNat) noG S1
  | _ => False
def iRange2 (t u : TD) : TDI := fun Rx ρ S R => t Rx ρ S fun d S1 => u Rx ρ S1 fun e S2 => match d, e with
  | .int i, .int j => (-(2 ^ 62) ≤ i ∧ i < 2 ^ 62 ∧ -(2 ^ 62) ≤ j ∧ j < 2 ^ 62) ∧ R (rangeD i (j - i).toNat) noG S2
  | _, _ => False
def forW (G : Sto → Prop) (g : TDG) (t : TDS) (E : DEnds) : List D → Ev → Sto → Prop
  | [], ρ, S => G S ∧ E.nx ρ S
  | x :: r, ρ, S => G S ∧ g x ρ S fun ρ1 S1 => t { E with nx := forW G g t E r, ct := forW G g t E r, bk := E.nx } ρ1 S1
def sFor (it : TDI) (g : TDG) (t : TDS) : TDS := fun E ρ S => it (E.x ρ) ρ S fun xs G S1 => forW G g t E xs ρ S1
def noX : RX := fun _ _ => False
def wipeD (ρ : Ev) : List Nat → Ev
  | [] => ρ
  | v :: vs => (wipeD ρ vs).set v none
def lcW (n : Nat) (G : Sto → Prop) (g : TDG) (tt : TDT) (te : TD) (ρ : Ev) (R : Sto → Prop) : List D → Sto → Prop
  | [], S => G S ∧ R S
  | x :: r, S => G S ∧ g x ρ S fun ρ1 S1 => tt noX ρ1 S1 fun b S2 => ift b (te noX ρ1 S2 fun d S3 => mlstAt n S3 fun acc => acc.length < sizeLine ∧ lcW n G g tt te ρ R r (S3.set n (.lst (acc ++ [d])))) (lcW n G g tt te ρ R r S2)
def tYesD : TDT := fun _ _ S R => R true S
def eLC (it : TDI) (g : TDG) (tt : TDT) (te : TD) (vs : List Nat) : TD := fun Rx ρ S R => it Rx ρ S fun xs G S1 => lcW S1.length G g tt te (wipeD ρ vs) (fun S2 => R (.ref S1.length) S2) xs (S1 ++ [.lst []])

def dG (K : PySem.W.Frag) (vs : List Nat) (g : TDG) : TG := fun v σ H Q => ∃ ρ μ S d R, At K σ H ρ μ S ∧ Rep K H μ d v ∧ g d ρ S R ∧ ∀ ρ' S' σ' μ' H', R ρ' S' → wipe σ' vs = wipe σ vs → Ext K H μ H' μ' → At K σ' H' ρ' μ' S' → Q σ' H'
def dGs (K : PySem.W.Frag) (vs : List Nat) (g : TDGs) : TGs := fun us σ H Q => ∃ ρ μ S ds R, At K σ H ρ μ S ∧ Reps K H μ ds us ∧ g ds ρ S R ∧ ∀ ρ' S' σ' μ' H', R ρ' S' → wipe σ' vs = wipe σ vs → Ext K H μ H' μ' → At K σ' H' ρ' μ' S' → Q σ' H'
def WalkD (K : PySem.W.Frag) (H : Hp) (μ : List Addr) (J : It) (xs : List D) (G : Sto → Prop) : Prop := ∃ (Gv : Hp → Prop) (Y : Nat → Hp → V → Hp → Prop), Walk J xs.length Gv Y ∧
  (∀ H' μ' S, Ext K H μ H' μ' → Sim K H' μ' S → G S → Gv H') ∧
  ∀ (i : Nat) v H' H'' μ' S d, Ext K H μ H' μ' → Sim K H' μ' S → G S → xs[i]? = some d → Y i H' v H'' → Ext K H' μ' H'' μ' ∧ Sim K H'' μ' S ∧ Rep K H'' μ' d v
def dI (K : PySem.W.Frag) (W : WX) (it : TDI) : TI := fun σ H R => ∃ ρ μ S Rd Rx, At K σ H ρ μ S ∧ it Rx ρ S Rd ∧ OkX K H μ Rx (wAt W σ) ∧ ∀ xs G S' μ' H' J, Rd xs G S' → Ext K H μ H' μ' → Sim K H' μ' S' → WalkD K H' μ' J xs G → R J H'

section
variable {K : PySem.W.Frag} {H H' : Hp} {μ μ' : List Addr} {S : Sto} {ρ : Ev} {σ : L2.St}
theorem RepE.set (r : RepE K H μ ρ σ) {d : D} {v : V} (q : Rep K H μ d v) (i : Nat) : RepE K H μ (ρ.set i (some d)) (σ.set i (some v)) := by
  refine ⟨by rw [List.length_set, List.length_set, r.len], fun j e he => ?_⟩
  by_cases h : i = j
  · subst h
    have hl : i < ρ.length := by
      have := (List.getElem?_eq_some_iff.mp he).1
      rwa [List.length_set] at this
    rw [List.getElem?_set_self hl] at he
    cases he
    exact ⟨v, by rw [List.getElem?_set_self (by rw [r.len]; exact hl)], q⟩
  · rw [List.getElem?_set_ne h] at he ⊢
    exact r.at_ j e he
theorem RepE.unset (r : RepE K H μ ρ σ) (i : Nat) : RepE K H μ (ρ.set i none) (σ.set i none) := by
  refine ⟨by rw [List.length_set, List.length_set, r.len], fun j e he => ?_⟩
  by_cases h : i = j
  · subst h
    have hl : i < ρ.length := by
      have := (List.getElem?_eq_some_iff.mp he).1
      rwa [List.length_set] at this
    rw [List.getElem?_set_self hl] at he
    cases he
  · rw [List.getElem?_set_ne h] at he ⊢
    exact r.at_ j e he
theorem RepE.wipe (r : RepE K H μ ρ σ) : ∀ vs : List Nat, RepE K H μ (wipeD ρ vs) (L2.wipe σ vs)
  | [] => r
  | v :: vs => (RepE.wipe r vs).unset v
theorem wipe_set {x : Option V} : ∀ {vs : List Nat} {i : Nat} {σ : L2.St}, i ∈ vs → L2.wipe (σ.set i x) vs = L2.wipe σ vs
  | [], _, _, h => by simp at h
  | v :: vs, i, σ, h => by
    show (L2.wipe (σ.set i x) vs).set v none = (L2.wipe σ vs).set v none
    by_cases hi : i ∈ vs
    · rw [wipe_set hi]
    · have hv : i = v := by
        rcases List.mem_cons.mp h with e | e
        · exact e
        · exact absurd e hi
      subst hv
      have key : ∀ (vs : List Nat), L2.wipe (σ.set i x) vs = (L2.wipe σ vs).set i ((L2.wipe (σ.set i x) vs)[i]?.getD none) := by
        intro vs
        induction vs with
        | nil =>
          show σ.set i x = σ.set i ((σ.set i x)[i]?.getD none)
          by_cases hl : i < σ.length
          · rw [List.getElem?_set_self hl]; rfl
          · rw [List.set_eq_of_length_le (by omega), List.set_eq_of_length_le (by omega)]
        | cons w ws ih =>
          show (L2.wipe (σ.set i x) ws).set w none = ((L2.wipe σ ws).set w none).set i (((L2.wipe (σ.set i x) ws).set w none)[i]?.getD none)
          by_cases hw : w = i
          · subst hw
            rw [List.set_set]
            have hlen : (L2.wipe (σ.set w x) ws).length = (L2.wipe σ ws).length := by rw [wipe_length, wipe_length, List.length_set]
            by_cases hl : w < (L2.wipe (σ.set w x) ws).length
            · rw [List.getElem?_set_self hl]
              rw [ih, List.set_set]; rfl
            · have h1 : (L2.wipe (σ.set w x) ws).length ≤ w := by omega
              have h2 : (L2.wipe σ ws).length ≤ w := by omega
              rw [List.set_eq_of_length_le h1, List.set_eq_of_length_le h2]
              exact ih.trans (List.set_eq_of_length_le h2)
          · rw [List.getElem?_set_ne hw, List.set_comm _ _ hw, ← ih]
      rw [key vs, List.set_set]
end

section
variable {X : Cx} {W : WX} {a b c o : Expr} {ta tb te to_ ti : TD} {tc : TDT} {t u : TDS} {pos : Pos} {es : List Expr} {tr : TDA} {n : Nat} {st : Stmt} {rest sa sb : List Stmt}
/-! ### the rules: small statements -/
theorem ds_nil : PSs X [] (dS X.K W sNext) := pss_nil.imp fun Z σ H ⟨ρ, μ, S, E, at_, h, k⟩ => k.nx _ _ _ _ _ h Ext.refl at_
theorem ds_cons (h1 : PS X st (dS X.K W t)) (h2 : PSs X rest (dS X.K W u)) : PSs X (st :: rest) (dS X.K W (sSeq t u)) := by
  refine (pss_cons h1 h2).imp fun Z σ H ⟨ρ, μ, S, E, at_, h, k⟩ => ?_
  exact ⟨ρ, μ, S, _, at_, h, fun ρ' S' σ' μ' H' h' e a' => ⟨ρ', μ', S', E, a', h', k.ext e⟩, k.rt, k.bk, k.ct, k.ex⟩
theorem ds_one (h1 : PS X st (dS X.K W t)) : PSs X [st] (dS X.K W t) := pss_one h1
theorem ds_pass : PS X (.Pass pos) (dS X.K W sNext) := ps_pass.imp fun Z σ H ⟨ρ, μ, S, E, at_, h, k⟩ => k.nx _ _ _ _ _ h Ext.refl at_
theorem ds_break : PS X (.Break pos) (dS X.K W sBreak) := ps_break.imp fun Z σ H ⟨ρ, μ, S, E, at_, h, k⟩ => k.bk _ _ _ _ _ h Ext.refl at_
theorem ds_continue : PS X (.Continue pos) (dS X.K W sCont) := ps_continue.imp fun Z σ H ⟨ρ, μ, S, E, at_, h, k⟩ => k.ct _ _ _ _ _ h Ext.refl at_
theorem ds_ret (ha : PE X a (dE X.K W te)) : PS X (.Return (some a) pos) (dS X.K W (sRet te)) :=
  (ps_ret ha).imp fun Z σ H ⟨ρ, μ, S, E, at_, h, k⟩ => ⟨ρ, μ, S, _, _, at_, h, fun d S' v μ' H' h' e s r => k.rt _ _ _ _ _ h' e s r, k.x at_.env⟩
theorem ds_retN : PS X (.Return none pos) (dS X.K W sRetN) := ps_retN.imp fun Z σ H ⟨ρ, μ, S, E, at_, h, k⟩ => k.rt _ _ _ _ _ h Ext.refl at_.sim .non
theorem ds_expr (ha : PE X a (dE X.K W te)) (hs : swapsWith a none pos.line X.env = pure false := by rfl) : PS X (.Expr a pos) (dS X.K W (sExpr te)) :=
  (ps_expr ha hs).imp fun Z σ H ⟨ρ, μ, S, E, at_, h, k⟩ => ⟨ρ, μ, S, _, _, at_, h, fun d S' v μ' H' h' e s r => k.nx _ _ _ _ _ h' e ⟨at_.env.mono e, s⟩, k.x at_.env⟩
theorem ds_if (hc : PT X c (dT X.K W tc)) (h1 : PSs X sa (dS X.K W t)) (h2 : PSs X sb (dS X.K W u)) : PS X (.If c sa sb pos) (dS X.K W (sIf tc t u)) := by
  refine (ps_if hc h1 h2).imp fun Z σ H ⟨ρ, μ, S, E, at_, h, k⟩ => ?_
  refine ⟨ρ, μ, S, _, _, at_, h, fun b S' μ' H' h' e s => ?_, k.x at_.env⟩
  cases b with
  | true => exact ⟨ρ, μ', S', E, ⟨at_.env.mono e, s⟩, ift_t h', k.ext e⟩
  | false => exact ⟨ρ, μ', S', E, ⟨at_.env.mono e, s⟩, ift_f h', k.ext e⟩
theorem ds_set {i : Nat} {x : Str} {pos' : Pos} (hN : X.N.Nodup) (ha : PE X a (dE X.K W te)) (hi : X.N[i]? = some x := by rfl) (hx : Loc X.env.scope x := by first | exact Or.inl rfl | exact Or.inr rfl) (hs : swapsWith a (some (.Name x pos')) pos.line X.env = pure false := by rfl)
    (hf : X.fn x = true ∨ X.env.scope.names.lookup x = some .local := by first | exact .inl rfl | exact .inr rfl | assumption) : PS X (.Assign [.Name x pos'] a pos) (dS X.K W (sSet i te)) :=
  (ps_set hN hi hx ha hs hf).imp fun Z σ H ⟨ρ, μ, S, E, at_, h, k⟩ => ⟨ρ, μ, S, _, _, at_, h, fun d S' v μ' H' h' e s r => k.nx _ _ _ _ _ h' e ⟨(at_.env.mono e).set r i, s⟩, k.x at_.env⟩
theorem ds_par {i j : Nat} {x y : Str} {px py pt : Pos} {kt k2 : Nat} {pt2 : Pos} (hN : X.N.Nodup) (hc : X.calm = true) (ha : PA X [a, b] (dA X.K W n tr)) (hi : X.N[i]? = some x := by rfl) (hj : X.N[j]? = some y := by rfl) (hij : i ≠ j := by decide)
    (hx : X.env.scope.names.lookup x = some .local := by rfl) (hy : X.env.scope.names.lookup y = some .local := by rfl)
    (hw : swappedStores [.Tuple [.Name x px, .Name y py] kt pt] (.Tuple [a, b] k2 pt2) X.env = pure (some [x, y]) := by rfl) (hs : swapsWithSole [.Tuple [.Name x px, .Name y py] kt pt] (.Tuple [a, b] k2 pt2) pos.line X.env = pure false := by rfl) :
    PS X (.Assign [.Tuple [.Name x px, .Name y py] kt pt] (.Tuple [a, b] k2 pt2) pos) (dS X.K W (sPar i j tr)) := by
  refine (ps_par hc hN hi hj hij hx hy ha hw hs).imp fun Z σ H ⟨ρ, μ, S, E, at_, h, k⟩ => ?_
  refine ⟨ρ, μ, S, _, _, at_, h, fun ds S' vs μ' H' _ h' e s r => ?_, k.x at_.env⟩
  dsimp only at h'
  split at h'
  · cases r with | cons r1 r =>
    cases r with | cons r2 r =>
    cases r
    exact ⟨_, _, rfl, k.nx _ _ _ _ _ h' e ⟨((at_.env.mono e).set r1 i).set r2 j, s⟩⟩
  · exact h'.elim
theorem ds_par3 {i j l : Nat} {x y z : Str} {px py pz pt : Pos} {kt k2 : Nat} {pt2 : Pos} (hN : X.N.Nodup) (hc : X.calm = true) (ha : PA X [a, b, c] (dA X.K W n tr)) (hi : X.N[i]? = some x := by rfl) (hj : X.N[j]? = some y := by rfl) (hl : X.N[l]? = some z := by rfl)
    (hij : i ≠ j := by decide) (hil : i ≠ l := by decide) (hjl : j ≠ l := by decide)
    (hx : X.env.scope.names.lookup x = some .local := by rfl) (hy : X.env.scope.names.lookup y = some .local := by rfl) (hz : X.env.scope.names.lookup z = some .local := by rfl)
    (hw : swappedStores [.Tuple [.Name x px, .Name y py, .Name z pz] kt pt] (.Tuple [a, b, c] k2 pt2) X.env = pure (some [x, y, z]) := by rfl) (hs : swapsWithSole [.Tuple [.Name x px, .Name y py, .Name z pz] kt pt] (.Tuple [a, b, c] k2 pt2) pos.line X.env = pure false := by rfl) :
    PS X (.Assign [.Tuple [.Name x px, .Name y py, .Name z pz] kt pt] (.Tuple [a, b, c] k2 pt2) pos) (dS X.K W (sPar3 i j l tr)) := by
  refine (ps_par3 hc hN hi hj hl hij hil hjl hx hy hz ha hw hs).imp fun Z σ H ⟨ρ, μ, S, E, at_, h, k⟩ => ?_
  refine ⟨ρ, μ, S, _, _, at_, h, fun ds S' vs μ' H' _ h' e s r => ?_, k.x at_.env⟩
  dsimp only at h'
  split at h'
  · cases r with | cons r1 r =>
    cases r with | cons r2 r =>
    cases r with | cons r3 r =>
    cases r
    exact ⟨_, _, _, rfl, k.nx _ _ _ _ _ h' e ⟨(((at_.env.mono e).set r1 i).set r2 j).set r3 l, s⟩⟩
  · exact h'.elim
theorem ds_aug {i : Nat} {x : Str} {op : Operator} {r : R2} {f : OD} {pos' : Pos} (hN : X.N.Nodup) (ha : PE X a (dE X.K W te)) (ho : OpR X (inplaceOp op) r) (br : Br2 X.K r f) (hi : X.N[i]? = some x := by rfl) (hx : Loc X.env.scope x := by first | exact Or.inl rfl | exact Or.inr rfl)
    (hf : X.fn x = true ∨ X.env.scope.names.lookup x = some .local := by first | exact .inl rfl | exact .inr rfl | assumption) : PS X (.AugAssign (.Name x pos') op a pos) (dS X.K W (sAug i te f)) := by
  refine (ps_aug hN hi hx ha ho hf).imp fun Z σ H ⟨ρ, μ, S, E, at_, h, k⟩ => ?_
  unfold sAug at h
  split at h
  · rename_i d ed
    obtain ⟨v, hv, rv⟩ := at_.env.at_ i d ed
    refine ⟨v, hv, ρ, μ, S, _, _, at_, h, fun d2 S' w μ' H' h' e s rw_ => ?_, k.x at_.env⟩
    exact br d d2 S' _ v w μ' H' _ s (rv.mono e) rw_ h' fun d3 S3 z μ3 H3 h3 e3 s3 r3 => k.nx _ _ _ _ _ h3 (e.trans e3) ⟨(at_.env.mono (e.trans e3)).set r3 i, s3⟩
  · exact h.elim
theorem iop_addD : OpR X (inplaceOp .Add) (fun x y H Q => rI0 (fun i j => .int (i + j)) x y H Q ∨ ∃ i j, x = .str i ∧ y = .str j ∧ i.length + j.length ≤ sizeLine ∧ Q (.str (i ++ j)) H) := iop_add.or iop_add_str
def iaddD : OD
  | .int i, .int j => fun S R => R (.int (i + j)) S
  | .str x, .str y => fun S R => x.length + y.length ≤ sizeLine ∧ R (.str (x ++ y)) S
  | _, _ => fun _ _ => False
theorem br_iadd : Br2 X.K (fun x y H Q => rI0 (fun i j => .int (i + j)) x y H Q ∨ ∃ i j, x = .str i ∧ y = .str j ∧ i.length + j.length ≤ sizeLine ∧ Q (.str (i ++ j)) H) iaddD := by
  intro x y S R vx vy μ H Q s r1 r2 h ok
  unfold iaddD at h
  split at h
  · cases r1; cases r2
    exact .inl ⟨_, _, rfl, rfl, ok _ _ _ _ _ h Ext.refl s (.int _)⟩
  · cases r1; cases r2
    exact .inr ⟨_, _, rfl, rfl, h.1, ok _ _ _ _ _ h.2 Ext.refl s (.str _)⟩
  · exact h.elim
theorem ds_augAdd {i : Nat} {x : Str} {pos' : Pos} (hN : X.N.Nodup) (ha : PE X a (dE X.K W te)) (hi : X.N[i]? = some x := by rfl) (hx : Loc X.env.scope x := by first | exact Or.inl rfl | exact Or.inr rfl)
    (hf : X.fn x = true ∨ X.env.scope.names.lookup x = some .local := by first | exact .inl rfl | exact .inr rfl | assumption) : PS X (.AugAssign (.Name x pos') .Add a pos) (dS X.K W (sAug i te iaddD)) := ds_aug hN ha iop_addD br_iadd hi hx hf
theorem ds_augSub {i : Nat} {x : Str} {pos' : Pos} (hN : X.N.Nodup) (ha : PE X a (dE X.K W te)) (hi : X.N[i]? = some x := by rfl) (hx : Loc X.env.scope x := by first | exact Or.inl rfl | exact Or.inr rfl)
    (hf : X.fn x = true ∨ X.env.scope.names.lookup x = some .local := by first | exact .inl rfl | exact .inr rfl | assumption) : PS X (.AugAssign (.Name x pos') .Sub a pos) (dS X.K W (sAug i te subD)) := ds_aug hN ha iop_sub br_sub hi hx hf
theorem ds_setIx {opos : Pos} {kk : Nat} (hr : Room kk X.A) (he : PE X a (dE X.K W te)) (ho : PE X o (dE X.K W to_)) (hi : PE X b (dE X.K W ti)) (hs : swapsWithSole [.Subscript o b opos] a pos.line X.env = pure false := by rfl) (hw : swappedStores [.Subscript o b opos] a X.env = pure none := by rfl)
    (h1 : (assignEach [.Subscript o b opos] X.env).map (·.2) = [assign (.Subscript o b opos) X.env] := by rfl)
    (hp : ∀ v, assign (.Subscript o b opos) X.env v = (do
      let ov ← holding [v] (eval o X.env)
      let iv ← holding [v, ov] (eval b X.env)
      standAt opos
      holding [v, ov, iv] (setItem ov iv v)
      release [v, ov, iv] []) := by intro _; rfl) (hww : X.w = PWd.w := by rfl) :
    PS X (.Assign [.Subscript o b opos] a pos) (dS X.K W (sSetIx to_ ti te)) := by
  refine (ps_asg he (pg_sub ho hi (pset_or set_list (set_dic hr hww)) hp) hs hw h1).imp fun Z σ H ⟨ρ, μ, S, E, at_, h, k⟩ => ?_
  refine ⟨ρ, μ, S, _, _, at_, h, fun v S1 vv μ1 H1 h1 e1 s1 r1 => ?_, k.x at_.env⟩
  refine ⟨ρ, μ1, S1, _, _, ⟨at_.env.mono e1, s1⟩, h1, fun ob S2 vo μ2 H2 h2 e2 s2 r2 => ?_, (k.x at_.env).ext e1⟩
  refine ⟨ρ, μ2, S2, _, _, ⟨at_.env.mono (e1.trans e2), s2⟩, h2, fun ix S3 vi μ3 H3 h3 e3 s3 r3 => ?_, (k.x at_.env).ext (e1.trans e2)⟩
  have rv := r1.mono (e2.trans e3)
  have ro := r2.mono e3
  have e := (e1.trans e2).trans e3
  have dic : ∀ {n : Nat} {p : Addr} {kd : D}, μ3[n]? = some p → Rep X.K H3 μ3 kd vi → vo = .ref p → dputAt n kd v S3 (fun S4 => E.nx ρ S4) → rDicSet X.K vo vi vv H3 fun H' => Z.nx σ H' := fun {n p kd} g rk eo h => by
    cases h with | mk t ep kvs h hk hz hx =>
    obtain ⟨xs, da⟩ := s3.dic g h
    refine ⟨p, t, ep, kvs, xs, μ3, kd, v, eo, da, rk, hk, rv, hz, fun ep' xs' r' => ?_⟩
    obtain ⟨e', s'⟩ := s3.setDic (ep' := ep') g h r'
    exact k.nx _ _ _ _ _ (hx ep') (e.trans e') ⟨(at_.env.mono e).mono e', s'⟩
  dsimp only at h3
  split at h3
  · cases r3
    cases ro with | ref g =>
    obtain ⟨xs, g3, h3⟩ := mlst_inv h3
    obtain ⟨us, hu, q⟩ := s3.lst g g3
    unfold setK at h3
    split at h3
    · rename_i j hj
      obtain ⟨e', s'⟩ := s3.setLst g g3 (q.set rv j)
      exact .inl ⟨_, us, _, j, rfl, rfl, hu, by rw [← q.length]; exact hj, k.nx _ _ _ _ _ h3 (e.trans e') ⟨(at_.env.mono e).mono e', s'⟩⟩
    · exact h3.elim
  · cases ro with | ref g => exact .inr (dic g r3 rfl h3)
  · cases ro with | ref g => exact .inr (dic g r3 rfl h3)
  · exact h3.elim

/-! ### while -/
theorem ds_while (hp : PassesOwn (model X.prog X.w) X.A X.env X.xe) (hc : PT X c (dT X.K W tc)) (hb : PSs X sa (dS X.K W t)) : PS X (.While c sa [] pos) (dS X.K W (sWhile tc t)) := by
  refine (ps_while hp hc hb).imp fun Z σ H ⟨ρ, μ, S, E, at_, ⟨n, h⟩, k⟩ => ?_
  refine ⟨fun m σ' H' => ∃ ρ' μ' S', Ext X.K H μ H' μ' ∧ At X.K σ' H' ρ' μ' S' ∧ whileN tc t E m ρ' S', ⟨n, ρ, μ, S, Ext.refl, at_, h⟩, ?_⟩
  rintro m σ1 H1 ⟨ρ1, μ1, S1, e1, at1, h1⟩
  cases m with
  | zero => exact h1.elim
  | succ m =>
    refine ⟨ρ1, μ1, S1, _, _, at1, h1, fun b S2 μ2 H2 h2 e2 s2 => ?_, (k.ext e1).x at1.env⟩
    cases b with
    | false => exact k.nx _ _ _ _ _ (ift_f h2) (e1.trans e2) ⟨at1.env.mono e2, s2⟩
    | true =>
      replace h2 := ift_t h2
      refine ⟨fun σ' H' => ∃ ρ' μ' S', Ext X.K H μ H' μ' ∧ At X.K σ' H' ρ' μ' S' ∧ whileN tc t E m ρ' S', fun σ' H' hh => ⟨m, Nat.lt_succ_self m, hh⟩, ?_⟩
      have k2 := k.ext (e1.trans e2)
      refine ⟨ρ1, μ2, S2, _, ⟨at1.env.mono e2, s2⟩, h2, fun ρ' S' σ' μ' H' hh e a' => ?_, fun d S' v μ' H' hh e a' r => k2.rt _ _ _ _ _ hh e a' r, fun ρ' S' σ' μ' H' hh e a' => k2.nx _ _ _ _ _ hh e a', fun ρ' S' σ' μ' H' hh e a' => ?_, fun x ρ' S' cl dx σ' μ' H' hh e a' r => k2.ex _ _ _ _ _ _ _ _ hh e a' r⟩
      · exact ⟨ρ', μ', S', (e1.trans e2).trans e, a', hh⟩
      · exact ⟨ρ', μ', S', (e1.trans e2).trans e, a', hh⟩
/-! ### targets -/
theorem dg_name {i : Nat} {x : Str} {vs : List Nat} (hN : X.N.Nodup) (hv : i ∈ vs) (hi : X.N[i]? = some x := by rfl) (hx : Loc X.env.scope x := by first | exact Or.inl rfl | exact Or.inr rfl)
    (hf : X.fn x = true ∨ X.env.scope.names.lookup x = some .local := by first | exact .inl rfl | exact .inr rfl | assumption) : PG X (.Name x pos) (dG X.K vs (gNm i)) :=
  ⟨fun pins s σ H v u Q I r ⟨ρ, μ, S, d, R, at_, rd, h, k⟩ => (pg_name hN hi hx hf).run pins s σ H v u Q I r (k _ _ _ _ _ h (wipe_set hv) Ext.refl ⟨at_.env.set rd i, at_.sim⟩)⟩
theorem dgs_nil {vs : List Nat} : PGs X [] (dGs X.K vs gsNil) :=
  ⟨fun pins s σ H us ws Q I r ⟨ρ, μ, S, ds, R, at_, rd, h, k⟩ => pgs_nil.run pins s σ H us ws Q I r (by
    unfold gsNil at h
    split at h
    · cases rd; exact ⟨rfl, k _ _ _ _ _ h rfl Ext.refl at_⟩
    · exact h.elim)⟩
theorem dgs_cons {vs : List Nat} {g : TDG} {gs : TDGs} (h1 : PG X a (dG X.K vs g)) (h2 : PGs X es (dGs X.K vs gs)) (hs : (assignEach (a :: es) X.env).map (·.2) = assign a X.env :: (assignEach es X.env).map (·.2) := by rfl) : PGs X (a :: es) (dGs X.K vs (gsCons g gs)) :=
  ⟨fun pins s σ H us ws Q I r ⟨ρ, μ, S, ds, R, at_, rd, h, k⟩ => (pgs_cons h1 h2 hs).run pins s σ H us ws Q I r (by
    unfold gsCons at h
    split at h
    · cases rd with | cons r1 r2 =>
      refine ⟨_, _, rfl, ρ, μ, S, _, _, at_, r1, h, fun ρ' S' σ' μ' H' hh w e a' => ?_⟩
      exact ⟨ρ', μ', S', _, _, a', r2.mono e, hh, fun ρ2 S2 σ2 μ2 H2 hh2 w2 e2 a2 => k _ _ _ _ _ hh2 (w2.trans w) (e.trans e2) a2⟩
    · exact h.elim)⟩
theorem dg_tup {vs : List Nat} {gs : TDGs} {kt n : Nat} (hc : X.calm = true) (h : PGs X es (dGs X.K vs gs)) (hn : (assignEach es X.env).length = n := by rfl) (hst : (assignEach es X.env).findIdx? (·.1) = none := by rfl) : PG X (.Tuple es kt pos) (dG X.K vs (gTp n gs)) :=
  ⟨fun pins s σ H v u Q I r ⟨ρ, μ, S, d, R, at_, rd, hh, k⟩ => (pg_tup hc h hn hst).run pins s σ H v u Q I r (by
    unfold gTp at hh
    split at hh
    · cases rd with | tup tt q =>
      exact ⟨_, _, rfl, tt, by rw [← q.length]; exact hh.1, ρ, μ, S, _, R, at_, q, hh.2, k⟩
    · exact hh.elim)⟩
theorem ds_asg {tg : Expr} {vs : List Nat} {g : TDG} (he : PE X a (dE X.K W te)) (hg : PG X tg (dG X.K vs g)) (hs : swapsWithSole [tg] a pos.line X.env = pure false := by rfl) (hw : swappedStores [tg] a X.env = pure none := by rfl) (h1 : (assignEach [tg] X.env).map (·.2) = [assign tg X.env] := by rfl) :
    PS X (.Assign [tg] a pos) (dS X.K W (sAsg te g)) := by
  refine (ps_asg he hg hs hw h1).imp fun Z σ H ⟨ρ, μ, S, E, at_, h, k⟩ => ?_
  refine ⟨ρ, μ, S, _, _, at_, h, fun d S' v μ' H' h' e s r => ?_, k.x at_.env⟩
  exact ⟨ρ, μ', S', d, _, ⟨at_.env.mono e, s⟩, r, h', fun ρ2 S2 σ2 μ2 H2 hh w e2 a2 => k.nx _ _ _ _ _ hh (e.trans e2) a2⟩

/-! ### for -/
theorem ds_for {tg iter : Expr} {it : TDI} {vs : List Nat} {g : TDG} (hp : PassesOwn (model X.prog X.w) X.A X.env X.xe) (hc : X.calm = true) (hi : PI X tg iter (dI X.K W it)) (hg : PG X tg (dG X.K vs g)) (hb : PSs X sa (dS X.K W t)) (hs : ∀ x, foldedSetIterable iter X.env x = pure x := by intro _; rfl) :
    PS X (.For tg iter sa [] pos) (dS X.K W (sFor it g t)) := by
  refine (ps_for hp hc hi hg hb hs).imp fun Z σ H ⟨ρ, μ, S, E, at_, h, k⟩ => ?_
  refine ⟨ρ, μ, S, _, _, at_, h, k.x at_.env, fun xs G S1 μ1 H1 J h1 e1 s1 hw => ?_⟩
  obtain ⟨Gv, Y, w, hG, hY⟩ := hw
  refine for_it w (fun i σ' H' => ∃ ρ' μ' S', Ext X.K H1 μ1 H' μ' ∧ At X.K σ' H' ρ' μ' S' ∧ forW G g t E (xs.drop i) ρ' S') ⟨ρ, μ1, S1, Ext.refl, ⟨at_.env.mono e1, s1⟩, by rw [List.drop_zero]; exact h1⟩ ?_ ?_ ?_
  · rintro i σ' H' hi ⟨ρ', μ', S', e', a', hf⟩
    refine hG H' μ' S' e' a'.sim ?_
    cases hd : xs.drop i with
    | nil => rw [hd] at hf; exact hf.1
    | cons x r => rw [hd] at hf; exact hf.1
  · rintro i v σ' H' H'' hi ⟨ρ', μ', S', e', a', hf⟩ hy
    have hd : xs[i]? = some xs[i] := List.getElem?_eq_getElem hi
    rw [List.drop_eq_getElem_cons hi] at hf
    obtain ⟨hGS, hf⟩ := hf
    obtain ⟨e2, s2, r2⟩ := hY i v H' H'' μ' S' xs[i] e' a'.sim hGS hd hy
    refine ⟨ρ', μ', S', _, _, ⟨a'.env.mono e2, s2⟩, r2, hf, fun ρ3 S3 σ3 μ3 H3 h3 _ e3 a3 => ?_⟩
    have k3 := k.ext (e1.trans (e'.trans (e2.trans e3)))
    refine ⟨ρ3, μ3, S3, _, a3, h3, fun ρ4 S4 σ4 μ4 H4 hh e4 a4 => ?_, fun d S4 v4 μ4 H4 hh e4 a4 r4 => k3.rt _ _ _ _ _ hh e4 a4 r4, fun ρ4 S4 σ4 μ4 H4 hh e4 a4 => k3.nx _ _ _ _ _ hh e4 a4, fun ρ4 S4 σ4 μ4 H4 hh e4 a4 => ?_, fun x ρ4 S4 cl dx σ4 μ4 H4 hh e4 a4 r4 => k3.ex _ _ _ _ _ _ _ _ hh e4 a4 r4⟩
    · exact ⟨ρ4, μ4, S4, (e'.trans (e2.trans e3)).trans e4, a4, hh⟩
    · exact ⟨ρ4, μ4, S4, (e'.trans (e2.trans e3)).trans e4, a4, hh⟩
  · rintro σ' H' ⟨ρ', μ', S', e', a', hf⟩
    rw [List.drop_length] at hf
    exact k.nx _ _ _ _ _ hf.2 (e1.trans e') a'
/-! ### comprehensions -/
theorem lc_step {it : TDI} {vs : List Nat} {g : TDG} {tt : TDT} {σ : L2.St} {H : Hp} {Q : VK} (h : dE X.K W (eLC it g tt te vs) σ H Q) (W0 : WX) : tLc (dI X.K W it) (dG X.K vs g) (dT X.K W0 tt) (dE X.K W0 te) vs σ H Q := by
  obtain ⟨ρ, μ, S, R, Rx, at_, h, ok, ox⟩ := h
  refine ⟨ρ, μ, S, _, Rx, at_, h, ox, fun xs G S1 μ1 H1 J h1 e1 s1 hw Dp hD => ?_⟩
  obtain ⟨Gv, Y, w, hG, hY⟩ := hw
  obtain ⟨e2, s2, r2⟩ := s1.newLst (xs := []) hD .nil
  have nX : ∀ (H' : Hp) (μ' : List Addr) σ', OkX X.K H' μ' noX (wAt W0 σ') := fun _ _ _ _ _ _ _ _ _ z => False.elim z
  refine lc_it w (fun i H' => ∃ μ' S', Ext X.K (upd H1 Dp (.lst [])) (μ1 ++ [Dp]) H' μ' ∧ Sim X.K H' μ' S' ∧ lcW S1.length G g tt te (wipeD ρ vs) (fun S2 => R (.ref S1.length) S2) (xs.drop i) S') ⟨_, _, Ext.refl, s2, by rw [List.drop_zero]; exact h1⟩ ?_ ?_ ?_
  · rintro i H' hi ⟨μ', S', e', a', hf⟩
    refine hG H' μ' S' (e2.trans e') a' ?_
    cases hd : xs.drop i with
    | nil => rw [hd] at hf; exact hf.1
    | cons x r => rw [hd] at hf; exact hf.1
  · rintro i v H' H'' hi ⟨μ', S', e', a', hf⟩ hy
    have hd : xs[i]? = some xs[i] := List.getElem?_eq_getElem hi
    rw [List.drop_eq_getElem_cons hi] at hf
    obtain ⟨hGS, hf⟩ := hf
    obtain ⟨e3, s3, r3⟩ := hY i v H' H'' μ' S' xs[i] (e2.trans e') a' hGS hd hy
    have env0 := ((at_.env.mono e1).mono (e2.trans (e'.trans e3))).wipe vs
    refine ⟨wipeD ρ vs, μ', S', _, _, ⟨env0, s3⟩, r3, hf, fun ρ4 S4 σ4 μ4 H4 h4 w4 e4 a4 => ?_⟩
    have hwipe : wipe σ4 vs = wipe σ vs := by
      rw [w4]
      have idem : ∀ (l : List Nat) (τ : L2.St), (∀ i ∈ l, i ∈ vs) → wipe (wipe τ l) vs = wipe τ vs := by
        intro l
        induction l with
        | nil => intro τ _; rfl
        | cons x l ih =>
          intro τ hl
          show wipe ((wipe τ l).set x none) vs = _
          rw [wipe_set (hl x (by simp))]
          exact ih τ fun i hi => hl i (by simp [hi])
      exact idem vs σ fun _ h => h
    refine ⟨hwipe, ρ4, μ4, S4, _, _, a4, h4, fun b S5 μ5 H5 h5 e5 s5 => ?_, nX _ _ _⟩
    have e05 := e'.trans (e3.trans (e4.trans e5))
    cases b with
    | false => exact ⟨μ5, S5, e05, s5, ift_f h5⟩
    | true =>
      replace h5 := ift_t h5
      refine ⟨ρ4, μ5, S5, _, _, ⟨a4.env.mono e5, s5⟩, h5, fun d S6 v6 μ6 H6 h6 e6 s6 r6 => ?_, nX _ _ _⟩
      obtain ⟨acc, g6, h6⟩ := mlst_inv h6
      have e06 := e05.trans e6
      have gD : μ6[S1.length]? = some Dp := by
        cases r2 with | ref gg => exact e06.mu _ _ gg
      obtain ⟨us, hu, q⟩ := s6.lst gD g6
      obtain ⟨e7, s7⟩ := s6.setLst gD g6 (q.append (.cons r6 .nil))
      exact ⟨us, hu, by rw [← q.length]; exact h6.1, μ6, _, e06.trans e7, s7, h6.2⟩
  · rintro H' ⟨μ', S', e', a', hf⟩
    rw [List.drop_length] at hf
    exact ok _ _ _ _ _ hf.2 (e1.trans (e2.trans e')) a' (r2.mono e')
theorem dts_nil : PTs X [] (dT X.K W tYesD) := ⟨fun pins s σ H Q I ⟨ρ, μ, S, R, Rx, at_, h, ok, ox⟩ => pts_nil.run pins s σ H Q I (ok _ _ _ _ h Ext.refl at_.sim)⟩
theorem dts_one (h : PT X c (dT X.K W tc)) : PTs X [c] (dT X.K W tc) := pts_one h
abbrev W0 : WX := fun _ _ _ _ => False
theorem de_lc {tg iter : Expr} {ifs : List Expr} {scope : Scope} {own : List (Str × Nat)} {it : TDI} {g : TDG} {tt : TDT} (hc : X.calm = true) (hN : X.N.Nodup) (ok : blkC X.N X.env.scope scope own = true) (hi : PI X tg iter (dI X.K W it))
    (hg : ∀ (s : Shared) (H : Hp) (C : Addr) (cl : List (Str × Addr)) (fp : List Addr), PG (X.blk s H scope (compEnvC scope cl C X.env) fp) tg (dG X.K (own.map (·.2)) g))
    (ht : ∀ (s : Shared) (H : Hp) (C : Addr) (cl : List (Str × Addr)) (fp : List Addr), PTs (X.blk s H scope (compEnvC scope cl C X.env) fp) ifs (dT X.K W0 tt))
    (he : ∀ (s : Shared) (H : Hp) (C : Addr) (cl : List (Str × Addr)) (fp : List Addr), PE (X.blk s H scope (compEnvC scope cl C X.env) fp) a (dE X.K W0 te)) (hs : ∀ x, foldedSetIterable iter X.env x = pure x := by intro _; rfl) :
    PE X (.ListComp a [⟨tg, iter, ifs, 0⟩] scope pos) (dE X.K W (eLC it g tt te (own.map (·.2)))) :=
  (pe_lc hc hN hi (blkOk_by ok) hg ht he hs).imp fun _ _ _ h => lc_step h W0
theorem ds_setLc {i : Nat} {y : Str} {py : Pos} {tg iter : Expr} {ifs : List Expr} {scope : Scope} {own : List (Str × Nat)} {it : TDI} {g : TDG} {tt : TDT} {lpos : Pos} (hc : X.calm = true) (hN : X.N.Nodup) (ok : blkC X.N X.env.scope scope own = true)
    (ha : (scope.names.any fun (n, k) => n == y && (k == .local || k == .cell)) = false) (hi : PI X tg iter (dI X.K W it))
    (hg : ∀ (s : Shared) (H : Hp) (C : Addr) (cl : List (Str × Addr)) (fp : List Addr), PG (X.blk s H scope (compEnvC scope cl C X.env) fp) tg (dG X.K (own.map (·.2)) g))
    (ht : ∀ (s : Shared) (H : Hp) (C : Addr) (cl : List (Str × Addr)) (fp : List Addr), PTs (X.blk s H scope (compEnvC scope cl C X.env) fp) ifs (dT X.K W0 tt))
    (he : ∀ (s : Shared) (H : Hp) (C : Addr) (cl : List (Str × Addr)) (fp : List Addr), PE (X.blk s H scope (compEnvC scope cl C X.env) fp) a (dE X.K W0 te))
    (hy : X.N[i]? = some y := by rfl) (hyl : X.env.scope.names.lookup y = some .local := by rfl) (hk : X.env.scope.kind = .function := by rfl) (hl : (py.line == lpos.line) = true := by rfl) (hs : ∀ x, foldedSetIterable iter X.env x = pure x := by intro _; rfl) :
    PS X (.Assign [.Name y py] (.ListComp a [⟨tg, iter, ifs, 0⟩] scope lpos) pos) (dS X.K W (sSet i (eLC it g tt te (own.map (·.2))))) := by
  refine (ps_setLc hc hN hy hyl (sw_true hk hyl hl ha) hi (blkOk_by ok) hg ht he hs).imp fun Z σ H ⟨ρ, μ, S, E, at_, h, k⟩ => ?_
  exact lc_step (W := W) ⟨ρ, μ, S, _, _, at_, h, fun d S' v μ' H' h' e s r => k.nx _ _ _ _ _ h' e ⟨(at_.env.mono e).set r i, s⟩, k.x at_.env⟩ W0
end
end DL
namespace DL
open PySem PySem.Spec PyProof.Rows L2
variable [PWd]

section
variable {X : Cx} {W : WX} {a b : Expr} {ta tb : TD} {pos : Pos} {tg : Expr}
/-! ### an iterator over a value -/
theorem it_lst {pins : List (Addr × Obj)} {σ : L2.St} {H : Hp} {s : Shared} {p : Addr} {xs : List V} {R : It → Hp → Prop} (I : Inv X pins σ H s) (h : SqL X.K H p xs) (q : R (Itl X.K p) H) : wpAny (model X.prog X.w) X.A (pyIter (.ref p)) (PIE X pins σ tg R) X.xe s := by
  obtain ⟨its, _, pl, _⟩ := I.list h
  refine wpAny_pyIter_list pl.isList ⟨s.heap.objs.size, [s.heap.objs.size], _, _, H, rfl, I.kept (t' := s.toks) fun _ _ e => Heap.get?_push_of_some _ e, turn_list p _, ⟨_, Heap.get?_push_size _ rfl, rfl, rfl⟩, fun c hc => ?_, q⟩
  obtain rfl : c = s.heap.objs.size := by simpa using hc
  exact I.fpOk (Nat.le_refl _) (I.hok.fresh (Nat.le_refl _))
theorem it_tup {pins : List (Addr × Obj)} {σ : L2.St} {H : Hp} {s : Shared} {p : Addr} {xs : List V} {R : It → Hp → Prop} (I : Inv X pins σ H s) (h : SqT X.K H p xs) (q : R (Itt X.K p) H) : wpAny (model X.prog X.w) X.A (pyIter (.ref p)) (PIE X pins σ tg R) X.xe s := by
  obtain ⟨its, _, pl, _⟩ := I.tuple h
  refine wpAny_pyIter_tuple (show s.heap.IsTuple p its.toArray from pl) ⟨s.heap.objs.size, [s.heap.objs.size], _, _, H, rfl, I.kept (t' := s.toks) fun _ _ e => Heap.get?_push_of_some _ e, turn_tuple p _, ⟨_, Heap.get?_push_size _ rfl, rfl, rfl⟩, fun c hc => ?_, q⟩
  obtain rfl : c = s.heap.objs.size := by simpa using hc
  exact I.fpOk (Nat.le_refl _) (I.hok.fresh (Nat.le_refl _))
def iSeqV (K : PySem.W.Frag) (tl : TE) : TI := fun σ H R => tl σ H fun x H1 => (∃ p xs, x = .ref p ∧ SqL K H1 p xs ∧ R (Itl K p) H1) ∨ (∃ p xs, x = .ref p ∧ SqT K H1 p xs ∧ R (Itt K p) H1) ∨ ∃ z, x = .str z ∧ R (Its z) H1
theorem pi_seqV {tl : TE} (hl : PE X a tl) : PI X tg a (iSeqV X.K tl) := by
  refine ⟨fun pins s σ H R I h => thn (hl.run pins s σ H _ I h) fun v s1 ⟨x, H1, I1, r1, q1⟩ => ?_⟩
  rcases q1 with ⟨p, xs, rfl, hq, q⟩ | ⟨p, xs, rfl, hq, q⟩ | ⟨z, rfl, q⟩
  · cases r1
    exact it_lst I1 hq q
  · cases r1
    exact it_tup I1 hq q
  · obtain ⟨t, rfl⟩ := r1
    cases hz : z.cps.all (· < 128) with
    | false => exact wpAny_pyIter_wide hz (pi_one (tk := s1.toks) I1 _ (turn_str _ z t "str_iterator" (.inr rfl)) ⟨_, Heap.get?_push_size _ rfl, rfl, rfl⟩ q)
    | true => exact wpAny_pyIter_ascii hz (pi_one (tk := s1.toks) I1 _ (turn_str _ z t "str_ascii_iterator" (.inl rfl)) ⟨_, Heap.get?_push_size _ rfl, rfl, rfl⟩ q)
theorem _root_.L2.PI.imp {X : Cx} {tg e : Expr} {t t' : TI} (h : PI X tg e t) (i : ∀ σ H R, t' σ H R → t σ H R) : PI X tg e t' := ⟨fun pins s σ H R I q => h.run pins s σ H R I (i σ H R q)⟩
theorem wd_lst {K : PySem.W.Frag} {H : Hp} {μ : List Addr} {n : Nat} {p : Addr} {xs : List D} (g : μ[n]? = some p) : WalkD K H μ (Itl K p) xs (fun S => S[n]? = some (.lst xs)) := by
  refine ⟨fun H' => ∃ vs, vs.length = xs.length ∧ SqL K H' p vs, fun i H' v H'' => H'' = H' ∧ ∀ vs, SqL K H' p vs → vs[i]? = some v, ⟨?_, ?_, ?_⟩, ?_, ?_⟩
  · rintro i H' hi ⟨vs, hl, hq⟩
    exact ⟨vs, vs[i]'(by omega), hq, List.getElem?_eq_getElem _⟩
  · rintro H' ⟨vs, hl, hq⟩
    exact ⟨vs, hq, by omega⟩
  · rintro i H' x H'' hi ⟨vs, hl, hq⟩ ⟨e, hy⟩
    exact ⟨e, hy⟩
  · intro H' μ' S e s hS
    obtain ⟨vs, hv, q⟩ := s.lst (e.mu _ _ g) hS
    exact ⟨vs, q.length.symm, SqL.of hv⟩
  · rintro i v H' H'' μ' S d e s hS hd ⟨rfl, hy⟩
    obtain ⟨vs, hv, q⟩ := s.lst (e.mu _ _ g) hS
    obtain ⟨u, hu, ru⟩ := q.get hd
    have := hy vs (SqL.of hv)
    rw [hu] at this; cases this
    exact ⟨Ext.refl, s, ru⟩
theorem wd_fix {K : PySem.W.Frag} {H : Hp} {μ : List Addr} {n : Nat} {p : Addr} {xs : List D} (g : μ[n]? = some p) : WalkD K H μ (Itl K p) xs (fun S => S[n]? = some (.fix xs)) := by
  refine ⟨fun H' => ∃ vs, vs.length = xs.length ∧ SqL K H' p vs, fun i H' v H'' => H'' = H' ∧ ∀ vs, SqL K H' p vs → vs[i]? = some v, ⟨?_, ?_, ?_⟩, ?_, ?_⟩
  · rintro i H' hi ⟨vs, hl, hq⟩
    exact ⟨vs, vs[i]'(by omega), hq, List.getElem?_eq_getElem _⟩
  · rintro H' ⟨vs, hl, hq⟩
    exact ⟨vs, hq, by omega⟩
  · rintro i H' x H'' hi ⟨vs, hl, hq⟩ ⟨e, hy⟩
    exact ⟨e, hy⟩
  · intro H' μ' S e s hS
    obtain ⟨vs, hv, q⟩ := s.fix (e.mu _ _ g) hS
    exact ⟨vs, q.length.symm, hv.sql⟩
  · rintro i v H' H'' μ' S d e s hS hd ⟨rfl, hy⟩
    obtain ⟨vs, hv, q⟩ := s.fix (e.mu _ _ g) hS
    obtain ⟨u, hu, ru⟩ := q.get hd
    have := hy vs hv.sql
    rw [hu] at this; cases this
    exact ⟨Ext.refl, s, ru⟩
theorem wd_tup {K : PySem.W.Frag} {H : Hp} {μ : List Addr} {p : Addr} {xs : List D} {vs : List V} (h : SqT K H p vs) (q : Reps K H μ xs vs) : WalkD K H μ (Itt K p) xs noG := by
  refine ⟨fun H' => SqT K H' p vs, YAt vs, ?_, fun H' μ' S e s _ => e.tup _ _ h, ?_⟩
  · rw [q.length]; exact walk_tup
  · rintro i v H' H'' μ' S d e s hS hd ⟨rfl, hy⟩
    obtain ⟨u, hu, ru⟩ := (q.mono e).get hd
    rw [hu] at hy; cases hy
    exact ⟨Ext.refl, s, ru⟩
theorem wd_str {K : PySem.W.Frag} {H : Hp} {μ : List Addr} {z : Str} : WalkD K H μ (Its z) (z.cps.toList.map fun c => .str ⟨#[c]⟩) noG := by
  refine ⟨fun _ => True, fun i H v H' => H' = H ∧ ∃ c, z.cps[i]? = some c ∧ v = .str ⟨#[c]⟩, ?_, fun _ _ _ _ _ _ => trivial, ?_⟩
  · rw [List.length_map, Array.length_toList]; exact walk_str
  · rintro i v H' H'' μ' S d e s hS hd ⟨rfl, c, hc, rfl⟩
    rw [List.getElem?_map, Array.getElem?_toList, hc] at hd
    cases hd
    exact ⟨Ext.refl, s, .str _⟩
theorem wd_range {K : PySem.W.Frag} {H : Hp} {μ : List Addr} {lo : Int} {n : Nat} : WalkD K H μ (Itr lo n) (rangeD lo n) noG := by
  refine ⟨fun _ => True, YFn fun i => .int (lo + i), ?_, fun _ _ _ _ _ _ => trivial, ?_⟩
  · rw [show (rangeD lo n).length = n by unfold rangeD; rw [List.length_map, List.length_range]]; exact walk_range
  · rintro i v H' H'' μ' S d e s hS hd ⟨rfl, rfl⟩
    unfold rangeD at hd
    rw [List.getElem?_map] at hd
    by_cases hi : i < n
    · rw [List.getElem?_range hi] at hd
      cases hd
      exact ⟨Ext.refl, s, .int _⟩
    · rw [List.getElem?_eq_none (by rw [List.length_range]; omega)] at hd
      cases hd
theorem di_seq (ha : PE X a (dE X.K W ta)) : PI X tg a (dI X.K W (iSeq ta)) := by
  refine (pi_seqV ha).imp fun σ H R ⟨ρ, μ, S, Rd, Rx, at_, h, ox, k⟩ => ?_
  refine ⟨ρ, μ, S, _, Rx, at_, h, fun d S' v μ' H' h' e s r => ?_, ox⟩
  dsimp only at h'
  split at h'
  · cases r with | tup t q =>
    exact .inr (.inl ⟨_, _, rfl, t, k _ _ _ _ _ _ h' e s (wd_tup t q)⟩)
  · cases r
    exact .inr (.inr ⟨_, rfl, k _ _ _ _ _ _ h' e s wd_str⟩)
  · cases r with | ref g =>
    obtain ⟨xs, h'⟩ := iter_inv h'
    rcases h' with ⟨g', h'⟩ | ⟨g', h'⟩
    · obtain ⟨vs, hv, q⟩ := s.lst g g'
      exact .inl ⟨_, _, rfl, SqL.of hv, k _ _ _ _ _ _ h' e s (wd_lst g)⟩
    · obtain ⟨vs, hv, q⟩ := s.fix g g'
      exact .inl ⟨_, _, rfl, hv.sql, k _ _ _ _ _ _ h' e s (wd_fix g)⟩
  · exact h'.elim
theorem di_range1 {p : Pos} (hm : X.mg "range" = none) (ha : PE X a (dE X.K W ta)) (hg : Gl X "range" := by rfl) (hs : starEach [a] X.env = [(false, eval a X.env)] := by rfl) : PI X tg (.Call (.Name "range" p) [a] [] pos) (dI X.K W (iRange1 ta)) := by
  refine (pi_range1 hg hm (pa_cons ha pa_nil hs) hs).imp fun σ H R ⟨ρ, μ, S, Rd, Rx, at_, h, ox, k⟩ => ?_
  refine ⟨ρ, μ, S, _, Rx, at_, h, fun d S' v μ' H' h' e s r => ?_, ox⟩
  dsimp only at h'
  split at h'
  · cases r
    exact ⟨_, rfl, h'.1.1, h'.1.2, k _ _ _ _ _ _ h'.2 e s wd_range⟩
  · exact h'.elim
theorem di_range2 {p : Pos} (hm : X.mg "range" = none) (ha : PE X a (dE X.K W ta)) (hb : PE X b (dE X.K W tb)) (hg : Gl X "range" := by rfl) (hs : starEach [a, b] X.env = [(false, eval a X.env), (false, eval b X.env)] := by rfl) (hs2 : starEach [b] X.env = [(false, eval b X.env)] := by rfl) :
    PI X tg (.Call (.Name "range" p) [a, b] [] pos) (dI X.K W (iRange2 ta tb)) := by
  refine (pi_range2 hg hm (pa_cons ha (pa_cons hb pa_nil hs2) (by rw [hs, hs2])) hs hs2).imp fun σ H R ⟨ρ, μ, S, Rd, Rx, at_, h, ox, k⟩ => ?_
  refine ⟨ρ, μ, S, _, Rx, at_, h, fun x S1 v μ1 H1 h1 e1 s1 r1 => ?_, ox⟩
  refine ⟨ρ, μ1, S1, _, Rx, ⟨at_.env.mono e1, s1⟩, h1, fun y S2 w μ2 H2 h2 e2 s2 r2 => ?_, ox.ext e1⟩
  dsimp only at h2
  split at h2
  · cases r1; cases r2
    exact ⟨_, _, rfl, h2.1, k _ _ _ _ _ _ h2.2 (e1.trans e2) s2 wd_range⟩
  · exact h2.elim
end

/-! ### a def by its body -/
def topEnds (R : RD) (Rx : RX) : DEnds := { nx := fun _ S => R .non S, rt := R, bk := fun _ _ => False, ct := fun _ _ => False, ex := fun x _ S => Rx x S }
/-- the promise of a def whose body reads t: m names, the parameters first -/
def wOf (m : Nat) (t : TDS) : DSp := fun ds S R Rx => t (topEnds R Rx) (ds.map some ++ List.replicate (m - ds.length) none) S
theorem dSp_len {K : PySem.W.Frag} {n : Nat} {sp : DSp} {vs : List V} {H : Hp} {Q : VK} {E : XK} (h : dSp K n sp vs H Q E) : vs.length = n := by
  obtain ⟨ds, μ, S, R, Rx, s, r, l, _⟩ := h
  rw [← r.length, l]
theorem start_rep {K : PySem.W.Frag} {H : Hp} {μ : List Addr} {ds : List D} {vs : List V} (r : Reps K H μ ds vs) (N : List Str) : RepE K H μ (ds.map some ++ List.replicate (N.length - ds.length) none) (L2.start N vs) := by
  unfold L2.start
  refine ⟨by simp [r.length], fun i d h => ?_⟩
  rw [List.getElem?_append] at h
  split at h
  · rename_i hl
    rw [List.length_map] at hl
    rw [List.getElem?_map] at h
    cases e : ds[i]? with
    | none => rw [e] at h; cases h
    | some d' =>
      rw [e] at h
      cases h
      obtain ⟨v, hv, rv⟩ := r.get e
      refine ⟨v, ?_, rv⟩
      rw [List.getElem?_append_left (by rw [List.length_map, ← r.length]; exact hl), List.getElem?_map, hv]
      rfl
  · rw [List.getElem?_replicate] at h
    split at h <;> cases h
section
variable {P : Program} {w : World} {K : PySem.W.Frag} {mg : Str → Option Value} {base : Heap}
theorem FunD.okD {x qual : Str} {params : Arguments} {body : List Stmt} {scope : Scope} {dvs : List V} {kws : List (Str × V)} {f : Addr} {fd : FuncData} {N ps : List Str} {k n m : Nat} {t : TDS} (F : FunD K x qual params body scope dvs kws f fd) (sc : FnScope N ps scope) (hn : ps.length = n) (hm : N.length = m)
    (hb : ∀ (cdv : Value) (A : Around) (outer : List Env) (s : Shared) (H : Hp) (E : XK), Room k (A.deeper (envOfC qual scope s.heap.objs.size f cdv)) →
      PSs (cxOf (L2.CX P w) P w K mg base N qual scope f cdv A outer s H E) body (dS K (fun cls d _ H' => E cls d H') t)) : FnOk P w K mg base (L2.CX P w) (k + 1) f fd ps (dSp K n (wOf m t)) := by
  refine F.ok sc (fun vs H Q E h => by rw [dSp_len h, hn]) fun cdv A outer s H vs Q E hr h => ⟨_, hb cdv A outer s H E hr, ?_⟩
  obtain ⟨ds, μ, S, R, Rx, sm, r, l, h, ok, ox⟩ := h
  subst hm
  refine ⟨_, μ, S, _, ⟨start_rep r N, sm⟩, h, ?_, ?_, fun _ _ _ _ _ z => False.elim z, fun _ _ _ _ _ z => False.elim z, ?_⟩
  · intro ρ' S' σ' μ' H' h' e a'
    exact ok _ _ _ _ _ h' e a'.sim .non
  · intro d S' v μ' H' h' e s' rv
    exact ok _ _ _ _ _ h' e s' rv
  · intro y ρ' S' cls dx σ' μ' H' h' e a' rx
    exact ox _ _ _ _ _ _ h' e a'.sim rx
end
/-- what the law's def is asked: it answers True to the script's ints -/
theorem law_start {K : PySem.W.Frag} {H : Hp} {a : Addr} {ns : List Int} {sp : DSp} (hO : Only H) (hS : SqL K H a (ns.map V.int)) (h : sp [.ref 0] [.fix (ns.map D.int)] (fun d _ => d = .bl true) noX) : dSp K 1 sp [.ref a] H (fun v _ => v = .bl true) fun _ _ _ => False := by
  have hF : FixL K H a (ns.map V.int) := by
    rcases hS with (hS | ⟨o, hS⟩) | hS
    · rcases hO a with z | ⟨o, xs, z⟩
      · rw [hS] at z; cases z
      · rw [hS] at z; cases z
    · exact .inl ⟨o, hS⟩
    · exact .inr hS
  refine ⟨[.ref 0], [a], [.fix (ns.map D.int)], _, _, ⟨rfl, ?_, ?_⟩, .cons (.ref rfl) .nil, rfl, h, ?_, fun _ _ _ _ _ _ z => False.elim z⟩
  · intro i j b h1 h2 f1 f2
    cases i with
    | zero => cases f1
    | succ i => simp at h1
  · intro i b o h1 h2
    cases i with
    | zero =>
      cases h1; cases h2
      exact ⟨_, hF, Reps.of_ints ns⟩
    | succ i => simp at h1
  · intro d S' v μ' H' hd e s r
    subst hd
    cases r
    rfl
end DL
/-! exceptions of the program's own, over Exception: made, stored into, raised, caught -/
namespace DLX
open PySem PySem.Spec PyProof.Rows PySem.W Builtin Builtin.ObjectAttr
abbrev bmE : List Value := [.type "Exception", .type "BaseException", .type "object"]
/-- what the head tells of the class at C whose __init__ stands at fI -/
structure ExcK (K : Frag) (C fI : Addr) : Prop where
  q : excInitIn K C bmE "Exception.__new__" = true
  ov : excOver K C bmE = true
  hd : hasDictIn K C = true
  sa : findIn K (.ref C) "__setattr__" = some (some (.builtin "object.__setattr__"))
  exC : subIn K (.ref C) (.type "BaseException") = some true
  tyC : typeIn K (.ref C) = some (.type "type")
  kC : keepIn K (.ref C) = true
  iC : findIn K (.ref C) "__init__" = some (some (.ref fI))
  tI : isFn K (.ref fI) = true
section
variable {prog : Program} {w : World} {A : Around} {E : Value → Shared → Prop} {R : Result → Shared → Prop} {K : Frag} {hp : Heap} {g : Array GenState} {d : Drawn} {t : Nat} {os : OsState} {x C fI t1 dx : Addr} {name : Str} {tk : Tok} {v : Value}
theorem taker_none (h : findIn K (.ref C) name = some none) : takerIn K C name = some none := by
  unfold takerIn
  rw [h]
  rfl
/-- the first field -/
theorem set_first (T : ExcK K C fI) (X : K.In hp) (hx : hp.get? x = some (excObj C t1 none .none)) (ha : findIn K (.ref C) name = some none)
    (hq : ∀ h' tk' dx, (∀ b o, b ≠ x → hp.get? b = some o → h'.get? b = some o) → hp.objs.size ≤ dx → dx ≠ x → h'.get? x = some (excObj C t1 (some dx) .none) → h'.Ns1 dx (fun y => if y = name then some v else none) → R (.ok (.ret .none)) ⟨h', g, d, tk', os⟩) :
    codeAny (model prog w) A (.call (.builtin "object.__setattr__") ⟨[.ref x, .str name tk, v], []⟩) R ⟨hp, g, d, t, os⟩ := by
  have lt := Heap.lt_size hx
  have hxs : x ≠ hp.objs.size := Nat.ne_of_lt lt
  refine osa_openX (s := ⟨hp, g, d, t, os⟩) (od := none) F.store_Exception X ⟨hx, rfl, rfl, trivial⟩ T.ov (taker_none ha) fun b => ?_
  obtain ⟨cd, hc, hd'⟩ := any_some T.hd
  refine wpAny_bind (wpAny_pure (wpAny_bind (instanceDict_exc hx (looks_clsIn X hc) hd' ?_)))
  show wpAny _ _ (storeInDict hp.objs.size (.str name tk) name v) _ _ _
  have hx1 : (hp.push (dictOf [] 0)).get? x = some (excObj C t1 none .none) := Heap.get?_push_of_some _ hx
  refine PX.store_in_new ⟨_, #[], 0, (Heap.get?_update_ne _ _ _ _ hxs.symm).trans (Heap.get?_push_size _ rfl), rfl, fun e he => absurd he (by simp), fun _ => rfl⟩ fun h' tk' hn hs => ?_
  refine hq h' tk' hp.objs.size (fun b o hb ho => ?_) (Nat.le_refl _) hxs.symm ?_ hn
  · exact (hs.2 b (Nat.ne_of_lt (Heap.lt_size ho))).trans ((Heap.get?_update_ne _ _ _ _ hb).trans (Heap.get?_push_of_some _ ho))
  · exact (hs.2 x hxs).trans (Heap.get?_update_self _ hx1 rfl)
/-- a further one -/
theorem set_more {m0 : Str → Option Value} {ns : List Str} (T : ExcK K C fI) (X : K.In hp) (hx : hp.get? x = some (excObj C t1 (some dx) .none)) (hn : hp.Ns1 dx m0) (hw : Within m0 ns) (hz : ns.length ≤ 1000) (ha : findIn K (.ref C) name = some none)
    (hq : ∀ h' tk', (∀ b o, b ≠ dx → hp.get? b = some o → h'.get? b = some o) → h'.Ns1 dx (fun y => if y = name then some v else m0 y) → R (.ok (.ret .none)) ⟨h', g, d, tk', os⟩) :
    codeAny (model prog w) A (.call (.builtin "object.__setattr__") ⟨[.ref x, .str name tk, v], []⟩) R ⟨hp, g, d, t, os⟩ := by
  obtain ⟨oD, esD, epD, hoD, hdD, _⟩ := hn.count hw
  refine osa_openX (s := ⟨hp, g, d, t, os⟩) (od := some oD) F.store_Exception X ⟨hx, rfl, rfl, hoD⟩ T.ov (taker_none ha) fun b => ?_
  obtain ⟨cd, hc, hd'⟩ := any_some T.hd
  have look : Looks (model prog w) hp (classData C) cd := looks_clsIn X hc
  obtain ⟨c1, c2, c3, c4, c5, cH, c6, c7, c8, c9, cD⟩ := cd
  dsimp only at hd'
  subst hd'
  show wpAny _ _ (storeInOwnDict (.ref x) (.ref C) (.str name tk) name v b) _ _ _
  unfold storeInOwnDict ownDictForStores
  repeat (first | with_reducible refine OEX.store_in_old hn hw hz ?_ | with_reducible refine wpAny_loadPart_at hx ?_ | with_reducible refine look.at ?_ | wp_step)
  intro h' tk' hn' hs
  exact hq h' tk' (fun b o hb ho => (hs.2 b hb).trans ho) hn'
end
end DLX
namespace DL
open PySem PySem.Spec PyProof.Rows L2
variable [PWd]

/-! ### is True, is False -/
theorem is_bool_gen {M : Model} {A : Around} {E : Value → Shared → Prop} {s : Shared} {Q : Value → Shared → Prop} {v : Value} {k : Bool} (hv : ∀ p, v ≠ .builtin p) (h : Q (.bool (v == .bool k)) s) : wpAny M A (compareOp .Is v (.bool k)) Q E s := by
  cases v <;> first
    | exact wpAny_pure h
    | exact absurd rfl (hv _)
def isBD (k : Bool) : OU := fun x S R => match x with
  | .bl b => R (.bl (b == k)) S
  | _ => R (.bl false) S
section
variable {X : Cx} {W : WX} {a b c : Expr} {ta tb : TD} {pos : Pos} {es : List Expr} {tr tk : TDA} {n : Nat}
theorem op_isB (k : Bool) : OpR X (compareOp .Is) (fun x y H Q => y = .bl k ∧ (∀ b, x ≠ .byt b) ∧ (∀ b, x ≠ .flt b) ∧ Q (.bl (decide (x = .bl k))) H) := by
  intro pins s σ H x y v u Q I rx ry h
  obtain ⟨rfl, hb, hf, q⟩ := h
  cases ry
  have fin : ∀ z : Bool, z = decide (x = .bl k) → EP X pins σ Q (.bool z) s := fun z e => ⟨.bl z, H, I, rfl, by rw [e]; exact q⟩
  cases x with
  | non => cases rx; exact is_bool_gen (fun p z => by cases z) (fin _ (by simp))
  | bl i => cases rx; exact is_bool_gen (fun p z => by cases z) (fin _ (by rw [Bool.eq_iff_iff]; simp))
  | int i => obtain ⟨t, rfl⟩ := rx; exact is_bool_gen (fun p z => by cases z) (fin _ (by simp))
  | str i => obtain ⟨t, rfl⟩ := rx; exact is_bool_gen (fun p z => by cases z) (fin _ (by simp))
  | byt i => exact absurd rfl (hb i)
  | flt i => exact absurd rfl (hf i)
  | ref i => cases rx; exact is_bool_gen (fun p z => by cases z) (fin _ (by simp))
  | ty i => cases rx; exact is_bool_gen (fun p z => by cases z) (fin _ (by simp))
theorem isB_fin {K : PySem.W.Frag} {H : Hp} {μ : List Addr} {S : Sto} {d : D} {v : V} {k : Bool} {R : RD} (r : Rep K H μ d v) (h : isBD k d S R) : R (.bl (decide (v = .bl k))) S := by
  unfold isBD at h
  cases r with
  | bl b =>
    have e : (decide (V.bl b = V.bl k)) = (b == k) := by rw [Bool.eq_iff_iff]; simp
    rw [e]; exact h
  | _ => simpa using h
theorem rep_nobyt {K : PySem.W.Frag} {H : Hp} {μ : List Addr} {d : D} {v : V} (r : Rep K H μ d v) : (∀ b, v ≠ .byt b) ∧ ∀ b, v ≠ .flt b := by
  cases r <;> exact ⟨fun _ z => V.noConfusion z, fun _ z => V.noConfusion z⟩
theorem de_isB {k : Bool} {j pos'} (ha : PE X a (dE X.K W ta)) : PE X (.Compare a [.Is] [.Constant (.bool k) j pos'] pos) (dE X.K W (e1 (isBD k) ta)) := by
  refine (pe_cmpR (op_isB k) ha pe_bl (nomark _)).imp fun σ H Q ⟨ρ, μ, S, R, Rx, at_, h, ok, ox⟩ => ?_
  refine ⟨ρ, μ, S, _, Rx, at_, h, fun d S' v μ' H' h' e s r => ⟨rfl, (rep_nobyt r).1, (rep_nobyt r).2, ok _ _ _ _ _ (isB_fin r h') e s (.bl _)⟩, ox⟩
theorem dt_isB {k : Bool} {j pos'} (ha : PE X a (dE X.K W ta)) : PT X (.Compare a [.Is] [.Constant (.bool k) j pos'] pos) (dT X.K W (tTru (e1 (isBD k) ta))) := by
  refine (pt_cmpR (op_isB k) ha pe_bl (nomark _)).imp fun σ H Q ⟨ρ, μ, S, R, Rx, at_, h, ok, ox⟩ => ?_
  refine ⟨ρ, μ, S, _, Rx, at_, h, fun d S' v μ' H' h' e s r => ⟨rfl, (rep_nobyt r).1, (rep_nobyt r).2, _, rfl, ok _ _ _ _ (isB_fin r h') e s⟩, ox⟩

/-! ### defs by name -/
structure DefOk (P : Program) (w : World) (K : PySem.W.Frag) (mg : Str → Option Value) (base : Heap) (x : Str) (st : Stmt) (k : Nat) (ps : List Str) (n : Nat) (sp : DSp) : Prop where
  ex : ∃ fd, FnOk P w K mg base (L2.CX P w) k (He.ga K x) fd ps (dSp K n sp) ∧ FunD K x x (defArgs st) (defBody st) (defScope st) [] [] (He.ga K x) fd ∧ L2.Binds K fd ps []
  kp : PySem.W.keepIn K (.ref (He.ga K x)) = true
  gm : mg x = some (.ref (He.ga K x))
theorem de_fn {x : Str} {st : Stmt} {k : Nat} {ps : List Str} {sp : DSp} {p : Pos} (G : DefOk X.prog X.w X.K X.mg X.base x st k ps n sp) (hr : Room k X.A) (tk : Takes X W) (ha : PA X (a :: es) (dA X.K W n tr)) (hg : Gl X x := by rfl) (hdb : (x == ("__debug__" : Str)) = false := by decide)
    (he : starEach (a :: es) X.env = (false, eval a X.env) :: starEach es X.env := by rfl) (hpl : (backTo pos (starEach es X.env)).any (·.1) = false := by rfl) : PE X (.Call (.Name x p) (a :: es) [] pos) (dE X.K W (eCall sp tr)) := by
  obtain ⟨fd, F, _, hb⟩ := G.ex
  exact de_call F hr G.gm G.kp hb tk ha hg hdb he hpl
theorem de_fnK {x : Str} {st : Stmt} {k N : Nat} {ps ks : List Str} {π : List Nat} {sp : DSp} {p : Pos} {kws : List Keyword} (G : DefOk X.prog X.w X.K X.mg X.base x st k ps N sp) (hr : Room k X.A) (tks : Takes X W)
    (hb : ∀ (kV doc pm : Value) (an : Option Addr) (cdv ct : Value) (us ws : List Value), us.length = n → ws.length = ks.length → bindArgs (PySem.W.fnOf x x (defArgs st) (defBody st) (defScope st) .none kV doc pm an cdv ct) ⟨us, ks.zip ws⟩ = pure (ps.zip (pick π (us ++ ws))))
    (hN : π.length = N) (hπ : ∀ i ∈ π, i < n + ks.length) (ha : PA X (a :: es) (dA X.K W n tr)) (hkw : PK X kws (dA X.K W ks.length tk)) (hg : Gl X x := by rfl)
    (hall : (backToKw pos (keywordEach kws X.env)).all (·.1.isSome) = true := by rfl) (hks : (backToKw pos (keywordEach kws X.env)).filterMap (·.1) = ks := by rfl) (hdb : (x == ("__debug__" : Str)) = false := by decide)
    (he : starEach (a :: es) X.env = (false, eval a X.env) :: starEach es X.env := by rfl) (hpl : ((backTo pos (starEach (a :: es) X.env)).any (·.1) || (backToKw pos (keywordEach kws X.env)).any (·.1.isNone)) = false := by rfl) :
    PE X (.Call (.Name x p) (a :: es) kws pos) (dE X.K W (eCallK sp π tr tk)) := by
  obtain ⟨fd, F, D, _⟩ := G.ex
  exact de_callK F hr G.gm G.kp (kpi_of D hb) hN hπ tks ha hkw hg hall hks hdb he hpl
theorem de_fnK0 {x : Str} {st : Stmt} {k N : Nat} {ps ks : List Str} {π : List Nat} {sp : DSp} {p : Pos} {kws : List Keyword} (G : DefOk X.prog X.w X.K X.mg X.base x st k ps N sp) (hr : Room k X.A) (tks : Takes X W)
    (hb : ∀ (kV doc pm : Value) (an : Option Addr) (cdv ct : Value) (us ws : List Value), us.length = 0 → ws.length = ks.length → bindArgs (PySem.W.fnOf x x (defArgs st) (defBody st) (defScope st) .none kV doc pm an cdv ct) ⟨us, ks.zip ws⟩ = pure (ps.zip (pick π (us ++ ws))))
    (hN : π.length = N) (hπ : ∀ i ∈ π, i < ks.length) (hkw : PK X kws (dA X.K W ks.length tk)) (hg : Gl X x := by rfl)
    (hall : (backToKw pos (keywordEach kws X.env)).all (·.1.isSome) = true := by rfl) (hks : (backToKw pos (keywordEach kws X.env)).filterMap (·.1) = ks := by rfl) (hdb : (x == ("__debug__" : Str)) = false := by decide)
    (hpl : ((backTo pos (starEach [] X.env)).any (·.1) || (backToKw pos (keywordEach kws X.env)).any (·.1.isNone)) = false := by rfl) :
    PE X (.Call (.Name x p) [] kws pos) (dE X.K W (eCallK sp π aNil tk)) := by
  obtain ⟨fd, F, D, _⟩ := G.ex
  exact de_callK0 F hr G.gm G.kp (kpi_of D hb) hN hπ tks hkw hg hall hks hdb hpl
end

/-! ### what the top has written: defs, names, constants that are trees -/
/-- does the value u stand for the tree d in the written part -/
def conB (K : PySem.W.Frag) : Nat → D → Value → Bool
  | _, .non, .none => true
  | _, .bl b, .bool c => b == c
  | _, .int i, .int j _ => decide (i = j)
  | _, .str x, .str y _ => decide (x = y)
  | n + 1, .tup xs, .ref a => (match K.lookup a with
    | some ⟨.type c, _, .seq its _, _⟩ => decide (c = "tuple") && (decide (its.size ≤ sizeLine) && (decide (xs.length = its.toList.length) && (xs.zip its.toList).all fun p => conB K n p.1 p.2))
    | _ => false)
  | _, _, _ => false
theorem conB_ok {K : PySem.W.Frag} : ∀ (n : Nat) (d : D) (u : Value), conB K n d u = true → ∃ v, RelV v u ∧ ∀ H μ, Rep K H μ d v := by
  intro n
  induction n with
  | zero =>
    intro d u h
    cases d <;> cases u <;> simp only [conB] at h <;> first
      | (cases h; done)
      | exact ⟨.non, rfl, fun _ _ => .non⟩
      | (have e := eq_of_beq h; subst e; exact ⟨.bl _, rfl, fun _ _ => .bl _⟩)
      | (have e := of_decide_eq_true h; subst e; exact ⟨.int _, ⟨_, rfl⟩, fun _ _ => .int _⟩)
      | (have e := of_decide_eq_true h; subst e; exact ⟨.str _, ⟨_, rfl⟩, fun _ _ => .str _⟩)
  | succ n ih =>
    intro d u h
    cases d with
    | tup xs =>
      cases u with
      | ref a =>
        simp only [conB] at h
        split at h
        · rename_i c dd its m sl hk
          simp only [Bool.and_eq_true, decide_eq_true_eq] at h
          obtain ⟨hc, hz, hl, hall⟩ := h
          subst hc
          have go : ∀ (ds : List D) (us : List Value), ds.length = us.length → ((ds.zip us).all fun p => conB K n p.1 p.2) = true → ∃ vs, Vals vs us ∧ ∀ H μ, Reps K H μ ds vs := by
            intro ds
            induction ds with
            | nil =>
              intro us hl _
              cases us with
              | nil => exact ⟨[], .nil, fun _ _ => .nil⟩
              | cons => simp at hl
            | cons d ds ihd =>
              intro us hl hall
              cases us with
              | nil => simp at hl
              | cons u us =>
                simp only [List.zip_cons_cons, List.all_cons, Bool.and_eq_true] at hall
                obtain ⟨v, rv, hv⟩ := ih d u hall.1
                obtain ⟨vs, rvs, hvs⟩ := ihd us (by simpa using hl) hall.2
                exact ⟨v :: vs, .cons rv rvs, fun H μ => .cons (hv H μ) (hvs H μ)⟩
          obtain ⟨vs, rvs, hvs⟩ := go xs its.toList hl hall
          exact ⟨.ref a, rfl, fun H μ => .tup (.inr ⟨_, its, m, hk, rfl, rfl, hz, rvs⟩) (hvs H μ)⟩
        · cases h
      | _ => simp only [conB] at h; cases h
    | _ =>
      cases u <;> simp only [conB] at h <;> first
        | (cases h; done)
        | exact ⟨.non, rfl, fun _ _ => .non⟩
        | (have e := eq_of_beq h; subst e; exact ⟨.bl _, rfl, fun _ _ => .bl _⟩)
        | (have e := of_decide_eq_true h; subst e; exact ⟨.int _, ⟨_, rfl⟩, fun _ _ => .int _⟩)
        | (have e := of_decide_eq_true h; subst e; exact ⟨.str _, ⟨_, rfl⟩, fun _ _ => .str _⟩)
/-- what is asked of the frame beside the defs: a constant; a class's instances; whether things of one class are of another -/
inductive CS where
  | con (x : Str) (d : D)
  | ins (c : Str)
  | kit (t c : Sum String Str) (b : Bool)
  /-- an own exception class over Exception, with an __init__ of its own -/
  | exc (c : Str)
  /-- no class of c has f -/
  | exf (c f : Str)
  /-- are things of class x caught by a clause for q? -/
  | exm (x q : Str) (b : Bool)
  /-- its instances' fields can be read -/
  | xfc (c : Str)
  /-- its own def m, found by its instances -/
  | mth (c m : Str)
  /-- t is not asked first where c's instance stands on the left -/
  | nof (c : Str) (t : Sum String Str)
def clsV (K : PySem.W.Frag) : Sum String Str → Value
  | .inl T => .type T
  | .inr c => .ref (He.ga K c)
def conX (K : PySem.W.Frag) : CS → Bool
  | .con x d => (match PySem.W.nsIn K mainGlobals x with
    | some (some u) => conB K 8 d u
    | _ => false)
  | .ins c => He.eqO (PySem.W.findIn K (.ref (He.ga K c)) "__class__") (some (some (.builtin "object.__class__"))) && (He.eqO (PySem.W.specialIn K (.builtin "object.__class__") "__get__") (some (some (.builtin "getset_descriptor.__get__"))) &&
      (decide (PySem.W.takesIn K (.builtin "object.__class__") = some true) && decide (PySem.W.mroIn K (He.ga K c) (.type "object") = some true)))
  | .kit t c b => decide (PySem.W.kitOne K (clsV K t) (clsV K c) = some b)
  | .exc c => PySem.W.excInitIn K (He.ga K c) DLX.bmE "Exception.__new__" && (PySem.W.excOver K (He.ga K c) DLX.bmE && (PySem.W.hasDictIn K (He.ga K c) && (He.eqO (PySem.W.findIn K (.ref (He.ga K c)) "__setattr__") (some (some (.builtin "object.__setattr__"))) &&
      (decide (PySem.W.subIn K (.ref (He.ga K c)) (.type "BaseException") = some true) && (decide (PySem.W.typeIn K (.ref (He.ga K c)) = some (.type "type")) && (PySem.W.keepIn K (.ref (He.ga K c)) &&
      (He.eqO (PySem.W.findIn K (.ref (He.ga K c)) "__init__") (some (some (.ref (He.ma K (He.ga K c) "__init__")))) && PySem.W.isFn K (.ref (He.ma K (He.ga K c) "__init__")))))))))
  | .exf c f => He.eqO (PySem.W.findIn K (.ref (He.ga K c)) f) (some none)
  | .exm x q b => decide (PySem.W.exmOne K (.ref (He.ga K x)) (.ref (He.ga K q)) = some b)
  | .xfc c => xfB K (He.ga K c)
  | .mth c m => He.eqO (PySem.W.findIn K (.ref (He.ga K c)) m) (some (some (.ref (He.ma K (He.ga K c) m)))) && PySem.W.isFn K (.ref (He.ma K (He.ga K c) m))
  | .nof c t => PySem.W.notFirst K (He.ga K c) (clsV K t)
abbrev AlX : Type := Bool × He.AlD
def obsX (fa : List He.Fa) (fn : List He.DefD) (cs : List CS) (K : PySem.W.Frag) : AlX := (cs.all (conX K), He.obsD fa fn K)
def valX (fn : List He.DefD) : AlX := (true, He.valD fn)
def obsXG (n : Nat) (fa : List He.Fa) (fn : List He.DefD) (cs : List CS) (g : Addr → Option Obj) : AlX := obsX fa fn cs (He.frG g (He.asD g n))
def SaysX (fa : List He.Fa) (fn : List He.DefD) (cs : List CS) (K : PySem.W.Frag) : Prop := obsX fa fn cs K = valX fn
def hookX (n : Nat) (fa : List He.Fa) (fn : List He.DefD) (cs : List CS) : PySem.W.Hook where
  α := AlX
  obs := fun s => obsXG n fa fn cs s.heap.get?
  val := fun _ => valX fn
  says := fun _ h => ∃ K : PySem.W.Frag, K.In h ∧ SaysX fa fn cs K
  of := fun _ _ e => ⟨_, He.frG_in, e⟩
  keeps := fun _ _ _ ⟨K, hK, c⟩ k => ⟨K, PySem.W.Frag.In.keeps hK k, c⟩
omit [PWd] in
theorem obsXG_eq {n : Nat} {fa : List He.Fa} {fn : List He.DefD} {cs : List CS} {g : Addr → Option Obj} {s : Shared} (h : ∀ a, g a = s.heap.get? a) : obsXG n fa fn cs g = (hookX n fa fn cs).obs s := by
  have e : g = s.heap.get? := funext h
  rw [e] <;> rfl
/-- the program's facts -/
structure Tx (fa : List He.Fa) (fn : List He.DefD) (cs : List CS) (K : PySem.W.Frag) (mg : Str → Option Value) : Prop where
  ex : ∃ h : Heap, K.In h ∧ h.Ns mainGlobals mg ∧ SaysX fa fn cs K
section
variable {fa : List He.Fa} {fn : List He.DefD} {cs : List CS} {K : PySem.W.Frag} {mg : Str → Option Value}
theorem SaysX.d (c : SaysX fa fn cs K) : He.SaysD fa fn K := congrArg (fun z : AlX => z.2) c
theorem Tx.glo (T : Tx fa fn cs K mg) (i : Nat) {x : Str} (h : fa[i]? = some (.glo x) := by rfl) : mg x = some (.ref (He.ga K x)) := let ⟨_, X, G, c⟩ := T.ex; He.glo_ok X G (c.d.fact i h)
theorem Tx.free (T : Tx fa fn cs K mg) (i : Nat) {x : Str} (h : fa[i]? = some (.free x) := by rfl) : mg x = none := let ⟨_, X, G, c⟩ := T.ex; He.free_ok X G (c.d.fact i h)
theorem Tx.csq (T : Tx fa fn cs K mg) (i : Nat) {q : CS} (h : cs[i]? = some q) : conX K q = true := by
  obtain ⟨_, X, G, c⟩ := T.ex
  have c1 : cs.all (conX K) = true := congrArg (fun z : AlX => z.1) c
  exact List.all_eq_true.mp c1 _ (List.mem_of_getElem? h)
theorem Tx.con (T : Tx fa fn cs K mg) (i : Nat) {x : Str} {d : D} (h : cs[i]? = some (.con x d) := by rfl) : ∃ v u, mg x = some u ∧ RelV v u ∧ ∀ H μ, Rep K H μ d v := by
  have c2 := T.csq i h
  obtain ⟨_, X, G, c⟩ := T.ex
  simp only [conX] at c2
  split at c2
  · rename_i u hu
    obtain ⟨v, r, hr⟩ := conB_ok 8 d u c2
    exact ⟨v, u, PySem.W.mg_of X G hu, r, hr⟩
  · cases c2
/-- a class whose instances are told apart by type() -/
structure InsK (K : PySem.W.Frag) (c : Str) : Prop where
  ha : PySem.W.findIn K (.ref (He.ga K c)) "__class__" = some (some (.builtin "object.__class__"))
  hn : PySem.W.specialIn K (.builtin "object.__class__") "__get__" = some (some (.builtin "getset_descriptor.__get__"))
  ht : PySem.W.takesIn K (.builtin "object.__class__") = some true
  hm : PySem.W.mroIn K (He.ga K c) (.type "object") = some true
theorem Tx.ins (T : Tx fa fn cs K mg) (i : Nat) {c : Str} (h : cs[i]? = some (.ins c) := by rfl) : InsK K c := by
  have c2 := T.csq i h
  simp only [conX, Bool.and_eq_true] at c2
  obtain ⟨h1, h2, h3, h4⟩ := c2
  exact ⟨He.eqO_ok h1, He.eqO_ok h2, of_decide_eq_true h3, of_decide_eq_true h4⟩
theorem Tx.kit (T : Tx fa fn cs K mg) (i : Nat) {t c : Sum String Str} {b : Bool} (h : cs[i]? = some (.kit t c b) := by rfl) : PySem.W.kitOne K (clsV K t) (clsV K c) = some b := of_decide_eq_true (T.csq i h)
theorem Tx.cls (T : Tx fa fn cs K mg) (i : Nat) {x : Str} (h : fa[i]? = some (.cls x) := by rfl) : Cls K (He.ga K x) := let ⟨_, _, _, c⟩ := T.ex; He.cls_ok (c.d.fact i h)
theorem Tx.noat (T : Tx fa fn cs K mg) (i : Nat) {x f : Str} (h : fa[i]? = some (.noat x f) := by rfl) : NoAttr K (He.ga K x) f := let ⟨_, _, _, c⟩ := T.ex; He.noat_ok (c.d.fact i h)
theorem Tx.mkr (T : Tx fa fn cs K mg) (i : Nat) {x : Str} (h : fa[i]? = some (.mkr x) := by rfl) : Mk K (He.ga K x) (He.ma K (He.ga K x) "__init__") := let ⟨_, _, _, c⟩ := T.ex; He.mkr_ok (c.d.fact i h)
/-- a def of the text by its body's reading -/
theorem Tx.defD {P : Program} {w : World} {base : Heap} (T : Tx fa fn cs K mg) {x : Str} {st : Stmt} {k n m : Nat} {N ps : List Str} {t : TDS} (gm : mg x = some (.ref (He.ga K x))) (i : Nat) (hi : fn[i]? = some ⟨(x, none), x, x, defArgs st, defBody st, defScope st, [], []⟩)
    (sc : FnScope N ps (defScope st)) (hn : ps.length = n) (hm : N.length = m)
    (hbind : ∀ (kV doc pm : Value) (an : Option Addr) (cdv ct : Value) (us : List Value), us.length = ps.length → bindArgs (PySem.W.fnOf x x (defArgs st) (defBody st) (defScope st) .none kV doc pm an cdv ct) ⟨us, []⟩ = pure (ps.zip us))
    (hb : ∀ (cdv : Value) (A : Around) (outer : List Env) (s : Shared) (H : Hp) (E : XK), Room k (A.deeper (envOfC x (defScope st) s.heap.objs.size (He.ga K x) cdv)) →
      PSs (cxOf (L2.CX P w) P w K mg base N x (defScope st) (He.ga K x) cdv A outer s H E) (defBody st) (dS K (fun cls d _ H' => E cls d H') t)) : DefOk P w K mg base x st (k + 1) ps n (wOf m t) := by
  obtain ⟨_, X, G, c⟩ := T.ex
  obtain ⟨fd, F⟩ := c.d.def_ i hi
  have F' : FunD K x x (defArgs st) (defBody st) (defScope st) [] [] (He.ga K x) fd := F
  exact ⟨⟨fd, FunD.okD F' sc hn hm hb, F', F'.bindsN hbind⟩, F'.kp, gm⟩
theorem Tx.lawD {P : Program} {w : World} {base : Heap} {x : Str} {st : Stmt} {k : Nat} {ps : List Str} {n : Nat} {sp : DSp} (G : DefOk P w K mg base x st k ps n sp) {fd : FuncData} (F : FunD K x x (defArgs st) (defBody st) (defScope st) [] [] (He.ga K x) fd) :
    FnOk P w K mg base (L2.CX P w) k (He.ga K x) fd ps (dSp K n sp) := by
  obtain ⟨fd', F', D', _⟩ := G.ex
  obtain ⟨_, _, _, _, _, _, _, _, _, _, _, l1, _⟩ := F.ex
  obtain ⟨_, _, _, _, _, _, _, _, _, _, _, l2, _⟩ := D'.ex
  rw [l1] at l2
  cases l2
  exact F'
end
section
variable {X : Cx} {W : WX} {pos : Pos}
theorem de_con {x : Str} {d : D} (h : ∃ v u, X.mg x = some u ∧ RelV v u ∧ ∀ H μ, Rep X.K H μ d v) (hg : Gl X x := by rfl) (hd : (x == ("__debug__" : Str)) = false := by decide) : PE X (.Name x pos) (dE X.K W (eC d)) := by
  obtain ⟨v, u, hm, r, hr⟩ := h
  exact de_glob hm r hr hg hd
end
section
variable {P : Program} {w : World} {K : PySem.W.Frag} {mg : Str → Option Value} {base : Heap} {N : List Str} {q : Str} {sc : Scope} {f : Addr} {cd : Value} {A : Around} {outer : List Env} {s : Shared} {H : Hp} {E : XK}
theorem tkF : Takes (cxOf (L2.CX P w) P w K mg base N q sc f cd A outer s H E) (fun cls d _ H' => E cls d H') := takes_of rfl rfl rfl rfl
theorem poF : PassesOwn (model P w) (cxOf (L2.CX P w) P w K mg base N q sc f cd A outer s H E).A (cxOf (L2.CX P w) P w K mg base N q sc f cd A outer s H E).env (cxOf (L2.CX P w) P w K mg base N q sc f cd A outer s H E).xe := passes_of rfl
end
omit [PWd] in
/-- the law's end -/
theorem walk_D {l : PySem.W.OpenLaw} {n k : Nat} {q : Program} {loose : List Str} {XP : (Str → Option Value) → Heap → Prop} {YP : World → Heap → Prop} {d : DefRec} {x : Str} (hn : l.most = some n) (hn2 : n ≤ sizeLine) (hdf : d.params.defaults = []) (hr : Room k callerA)
    (F : ∀ (w : World) (mg : Str → Option Value) (fa : Addr) (h : Heap), YP w h → h.Ns mainGlobals mg → mg d.name = some (.ref fa) → ∃ (K : PySem.W.Frag) (fd : FuncData) (sp : Sp), K.In h ∧ (∀ (s : Shared) (u : Value), BindsTo s fd ⟨[u], []⟩ [(x, u)]) ∧
      (∀ (H : Hp) (a : Addr) (ns : List Int), ns.length ≤ n → Only H → SqL K H a (ns.map V.int) → sp [.ref a] H (fun v _ => v = .bl true) fun _ _ _ => False) ∧ ∀ base : Heap, K.In base → base.Ns mainGlobals mg → FnOk l.prog w K mg base (L2.CX l.prog w) k fa fd [x] sp) :
    PySem.W.WalkO q loose XP YP l.row.toRowW d [] (fun f vs => PySem.call f vs) := by
  refine Att.attach_call hn hdf fun w s₀ s₁ mg mb fa o pm cd doc a vs ns G Y _ _ _ hmg hobj hints hlen hg => ?_
  obtain ⟨K, fd, sp, KX, hb, hsp, hF⟩ := F w mg fa _ Y G.T.g hmg
  refine law_call KX G.T.g G.T.b G.T.builtins G.T.nolimit hg hobj hints (Nat.le_trans hlen hn2) hr hF hb (fun H hO hS => hsp H a ns hlen hO hS) fun H e s' z => ?_
  obtain ⟨_, _, _, _, _, _, _, _, _, _, _, _, z⟩ := z
  exact z.elim
end DL
namespace DL
open PySem PySem.Spec PyProof.Rows L2
variable [PWd]

/-! ### plain words: what a piece of a run leaves of the store -/
/-- all that stood ahead stands as it did, but at the places W -/
structure Frm (W : List Nat) (S S' : Sto) : Prop where
  len : S.length ≤ S'.length
  at_ : ∀ i, i < S.length → i ∉ W → S'[i]? = S[i]?
section
variable {W : List Nat} {S S' S'' : Sto} {i : Nat} {o : Ob}
theorem Frm.refl : Frm W S S := ⟨Nat.le_refl _, fun _ _ _ => rfl⟩
theorem Frm.trans (a : Frm W S S') (b : Frm W S' S'') : Frm W S S'' := ⟨Nat.le_trans a.len b.len, fun i h n => (b.at_ i (Nat.lt_of_lt_of_le h a.len) n).trans (a.at_ i h n)⟩
theorem Frm.mono {W' : List Nat} (a : Frm W S S') (h : ∀ i ∈ W, i ∈ W') : Frm W' S S' := ⟨a.len, fun i hl n => a.at_ i hl fun z => n (h i z)⟩
theorem Frm.nil (a : Frm [] S S') : Frm W S S' := a.mono fun _ h => by cases h
theorem Frm.app (T : Sto) : Frm W S (S ++ T) := ⟨by simp, fun i h _ => List.getElem?_append_left h⟩
theorem Frm.set (h : i ∈ W) : Frm W S (S.set i o) := ⟨by simp, fun j _ n => List.getElem?_set_ne (fun e : i = j => n (by rw [← e]; exact h))⟩
/-- a later object is written -/
theorem Frm.setNew (a : Frm W S S') (h : S.length ≤ i) : Frm W S (S'.set i o) := ⟨by simpa using a.len, fun j hj n => by rw [List.getElem?_set_ne (by omega)]; exact a.at_ j hj n⟩
theorem Frm.get (a : Frm W S S') (h : S[i]? = some o) (n : i ∉ W) : S'[i]? = some o := (a.at_ i (List.getElem?_eq_some_iff.mp h).1 n).trans h
theorem Frm.get0 (a : Frm [] S S') (h : S[i]? = some o) : S'[i]? = some o := a.get h (by simp)
theorem lt_of_get {α : Type} {l : List α} {i : Nat} {x : α} (h : l[i]? = some x) : i < l.length := (List.getElem?_eq_some_iff.mp h).1
theorem get_last {α : Type} {l : List α} {x : α} : (l ++ [x])[l.length]? = some x := by simp
end
theorem iteb {c : Bool} {A B : Prop} (h1 : c = true → A) (h2 : c = false → B) : if c = true then A else B := by
  cases c
  · exact h2 rfl
  · exact h1 rfl
theorem itet {c : Bool} {A B : Prop} (h : c = true) (a : A) : if c = true then A else B := by rw [if_pos h]; exact a
theorem itef {c : Bool} {A B : Prop} (h : c = false) (b : B) : if c = true then A else B := by rw [if_neg (by simp [h])]; exact b
theorem sz {n : Nat} (h : n ≤ 1000) : n ≤ sizeLine := Nat.le_of_lt (small1000 h)
theorem log2_lt {a : Int} {n k : Nat} (h : a.natAbs < 2 ^ n) (h0 : 0 < n) (hk : n ≤ k) : a.natAbs.log2 < k := Nat.lt_of_lt_of_le (PySem.Flt.log2_lt_of h0 h) hk
/-- a product's room -/
theorem room {a b : Int} {n m : Nat} (ha : a.natAbs < 2 ^ n) (hb : b.natAbs < 2 ^ m) (hn : 0 < n) (hm : 0 < m) (h : n + m ≤ 1000000) : a.natAbs.log2 + b.natAbs.log2 < 1000000 := by
  have h1 := PySem.Flt.log2_lt_of hn ha
  have h2 := PySem.Flt.log2_lt_of hm hb
  omega
/-- as many steps as one says, one less each turn -/
theorem gcd_step (a b : Int) : Int.gcd b (a % b) = Int.gcd a b := by
  have h : a = a % b + (a / b) * b := by
    have := Int.emod_add_mul_ediv a b
    rw [Int.mul_comm] at this
    exact this.symm
  have h2 := Int.gcd_add_mul_right_right b (a % b) (a / b)
  rw [← h] at h2
  rw [Int.gcd_comm a b, h2]
theorem pop_snoc {ys : List D} {z : D} {k : D → Prop} (h : k z) : popK (ys ++ [z]) k := by
  unfold popK
  have e : (ys ++ [z])[(ys ++ [z]).length - 1]? = some z := by simp
  rw [e]
  exact h
theorem snoc_of {α : Type} {l : List α} (h : l ≠ []) : ∃ r z, l = r ++ [z] := ⟨l.dropLast, l.getLast h, (List.dropLast_concat_getLast h).symm⟩
end DL
namespace DL
open PySem PySem.Spec PyProof.Rows L2
variable [PWd]

/-! ### plain values and their weight -/
mutual
def wt : D → Nat
  | .tup xs => wts xs + 1
  | _ => 1
def wts : List D → Nat
  | [] => 0
  | x :: r => wt x + wts r
end
mutual
def Pl : D → Prop
  | .tup xs => Pls xs
  | .ref _ => False
  | .fn _ => False
  | _ => True
def Pls : List D → Prop
  | [] => True
  | x :: r => Pl x ∧ Pls r
end
theorem wt_pos : ∀ d : D, 0 < wt d
  | .tup xs => by rw [wt]; omega
  | .non => by rw [wt]; omega; intro _ h; cases h
  | .bl _ => by rw [wt]; omega; intro _ h; cases h
  | .int _ => by rw [wt]; omega; intro _ h; cases h
  | .str _ => by rw [wt]; omega; intro _ h; cases h
  | .ref _ => by rw [wt]; omega; intro _ h; cases h
  | .fn _ => by rw [wt]; omega; intro _ h; cases h
theorem pl_tup {xs : List D} : Pl (.tup xs) ↔ Pls xs := by rw [Pl]
theorem pl_ref {n : Nat} : ¬ Pl (.ref n) := by rw [Pl]; exact id
theorem pl_fn {x : Str} : ¬ Pl (.fn x) := by rw [Pl]; exact id
theorem pls_one {d : D} : Pls [d] ↔ Pl d := by rw [Pls, Pls]; simp
theorem pls_nil : Pls [] := by rw [Pls]; trivial
theorem pls_cons {d : D} {r : List D} : Pls (d :: r) ↔ Pl d ∧ Pls r := by rw [Pls]
theorem pl_int {i : Int} : Pl (.int i) := by rw [Pl]; trivial; all_goals (intro _ h; cases h)
theorem pl_bl {i : Bool} : Pl (.bl i) := by rw [Pl]; trivial; all_goals (intro _ h; cases h)
theorem pl_str {i : Str} : Pl (.str i) := by rw [Pl]; trivial; all_goals (intro _ h; cases h)
theorem pl_non : Pl .non := by rw [Pl]; trivial; all_goals (intro _ h; cases h)
theorem wt_one {d : D} : wts [d] = wt d := by rw [wts, wts]; rfl
theorem wts_app (a b : List D) : wts (a ++ b) = wts a + wts b := by
  induction a with
  | nil => simp [wts]
  | cons x r ih => simp only [List.cons_append, wts, ih]; omega
theorem wts_len (a : List D) : a.length ≤ wts a := by
  induction a with
  | nil => simp
  | cons x r ih =>
    have := wt_pos x
    simp only [List.length_cons, wts]
    omega
theorem pls_app {a b : List D} : Pls (a ++ b) ↔ Pls a ∧ Pls b := by
  induction a with
  | nil => simp [Pls]
  | cons x r ih => simp only [List.cons_append, Pls, ih, and_assoc]
theorem pls_take {a : List D} {n : Nat} (h : Pls a) : Pls (a.take n) := by
  induction a generalizing n with
  | nil => simp [Pls]
  | cons x r ih =>
    cases n with
    | zero => simp [Pls]
    | succ n => simp only [List.take_succ_cons, Pls]; exact ⟨h.1, ih h.2⟩
/-- a pair told alike twice -/
abbrev pr (d : D) : D := .tup [d, d]
/-- of what is told and what is due: both one plain value, not too wide -/
def Good (x : D) : Prop := ∃ d, x = pr d ∧ Pl d ∧ wt d ≤ 100000

/-! ### pure readings: nothing is written, lists may be made -/
def EvV (ρ : Ev) (t : TD) (d : D) : Prop := ∀ (S : Sto) (Rx : RX) (R : RD), (∀ S', Frm [] S S' → R d S') → t Rx ρ S R
def EvG (ρ : Ev) (t : TD) : Prop := ∀ (S : Sto) (Rx : RX) (R : RD), (∀ d S', Frm [] S S' → Good d → R d S') → t Rx ρ S R
def EvL (ρ : Ev) (n : Nat) (t : TDA) : Prop := ∀ (S : Sto) (Rx : RX) (R : List D → Sto → Prop), (∀ xs S', Frm [] S S' → (∀ x ∈ xs, Good x) → xs.length = n → R xs S') → t Rx ρ S R
section
variable {ρ : Ev} {n : Nat} {a b : TD} {r : TDA} {d : D}
theorem EvL.nil : EvL ρ 0 aNil := fun S Rx R k => k [] S .refl (by simp) rfl
theorem EvL.cons (h1 : EvG ρ a) (h2 : EvL ρ n r) : EvL ρ (n + 1) (aCons a r) := fun S Rx R k =>
  h1 S Rx _ fun d S1 f1 g => h2 S1 Rx _ fun xs S2 f2 g2 hl => k (d :: xs) S2 (f1.trans f2) (fun x hx => by
    rcases List.mem_cons.mp hx with rfl | hx
    · exact g
    · exact g2 x hx) (by simp [hl])
theorem EvV.pair (h1 : EvV ρ a d) (h2 : EvV ρ b d) (hp : Pl d) (hw : wt d ≤ 100000) : EvG ρ (eTup (aCons a (aCons b aNil))) := fun S Rx R k =>
  h1 S Rx _ fun S1 f1 => h2 S1 Rx _ fun S2 f2 => ⟨sz (show 2 ≤ 1000 by decide), k _ _ (f1.trans f2) ⟨d, rfl, hp, hw⟩⟩
theorem EvV.c : EvV ρ (eC d) d := fun S Rx R k => k S .refl
theorem EvV.bl {b' : Bool} (h1 : EvV ρ a (.bl b')) : EvG ρ (eTup (aCons a (aCons (eC (.bl b')) aNil))) := EvV.pair h1 .c pl_bl (by rw [wt]; decide; intro _ h; cases h)
end
theorem aCons_step {Rx : RX} {ρ : Ev} {S : Sto} {ta : TD} {tr : TDA} {R : List D → Sto → Prop} (h : ta Rx ρ S fun x S1 => tr Rx ρ S1 fun xs S2 => R (x :: xs) S2) : aCons ta tr Rx ρ S R := h
/-- the pairs told so far -/
structure Prs (W : List Nat) (p : Nat) (c : Nat) (S : Sto) : Prop where
  nW : p ∉ W
  ex : ∃ ps, S[p]? = some (.lst ps) ∧ (∀ x ∈ ps, Good x) ∧ ps.length ≤ c
theorem Prs.frm {W : List Nat} {p c : Nat} {S S' : Sto} (h : Prs W p c S) (f : Frm W S S') : Prs W p c S' := by
  obtain ⟨n, ps, h1, h2, h3⟩ := h
  exact ⟨n, ps, f.get h1 n, h2, h3⟩
theorem Prs.mono {W : List Nat} {p c c' : Nat} {S : Sto} (h : Prs W p c S) (l : c ≤ c') : Prs W p c' S := by
  obtain ⟨n, ps, h1, h2, h3⟩ := h
  exact ⟨n, ps, h1, h2, Nat.le_trans h3 l⟩
/-- pairs = pairs + [...] -/
theorem add_prs {W : List Nat} {p c n : Nat} {S : Sto} {ρ : Ev} {t : TDA} {Rx : RX} {R : RD} (hp : Prs W p c S) (hW : ∀ i ∈ W, i < S.length) (hv : ρ[2]? = some (some (.ref p))) (ht : EvL ρ n t) (hc : c + n ≤ 100000)
    (k : ∀ p' S', Frm [] S S' → Prs W p' (c + n) S' → S.length ≤ p' → R (.ref p') S') : e2 addD (eVar 2) (eLst t) Rx ρ S R := by
  obtain ⟨nW, ps, h1, h2, h3⟩ := hp
  show eVar 2 Rx ρ S fun x S1 => eLst t Rx ρ S1 fun y S2 => addD x y S2 R
  unfold eVar
  rw [hv]
  refine ht S Rx _ fun xs S1 f1 g hl => ?_
  have e1 : (S1 ++ [Ob.lst xs])[p]? = some (.lst ps) := (f1.trans (Frm.app _)).get0 h1
  have e2 : (S1 ++ [Ob.lst xs])[S1.length]? = some (.lst xs) := get_last
  have hs : 100000 < sizeLine := by decide
  refine ⟨by omega, mlst_at e1 (mlst_at e2 ⟨by omega, ?_⟩)⟩
  refine k _ _ (f1.trans ((Frm.app _).trans (Frm.app _))) ⟨fun h => ?_, ps ++ xs, get_last, fun x hx => ?_, by simp; omega⟩ ?_
  · have := hW _ h
    have := f1.len
    simp at *
    omega
  · rcases List.mem_append.mp hx with h | h
    · exact h2 x h
    · exact g x h
  · have := f1.len
    simp
    omega
end DL
namespace DL
open PySem PySem.Spec PyProof.Rows L2
variable [PWd]

/-! ### zip and enumerate over lists, tuples and texts in any mix -/
inductive SK where
  | l (a : Addr)
  | t (a : Addr)
  | s (z : Str) (k : Tok)
namespace SK
def it (q : Addr) : SK → Nat → Heap → Prop
  | .l a, i, h => h.IsListIter q a i
  | .t a, i, h => h.IsTupleIter q a i
  | .s z k, i, h => h.IsStrIter q (strIterType z) z k i
def fp (q : Addr) : SK → List Addr
  | .l a => [q, a]
  | .t a => [q, a]
  | .s _ _ => [q]
def has (K : PySem.W.Frag) (i : Nat) (x : V) (H : Hp) : SK → Prop
  | .l a => ∃ xs, SqL K H a xs ∧ xs[i]? = some x
  | .t a => ∃ xs, SqT K H a xs ∧ xs[i]? = some x
  | .s z _ => ∃ c, z.cps[i]? = some c ∧ x = .str ⟨#[c]⟩
def fin (K : PySem.W.Frag) (i : Nat) (H : Hp) : SK → Prop
  | .l a => ∃ xs, SqL K H a xs ∧ xs.length = i
  | .t a => ∃ xs, SqT K H a xs ∧ xs.length = i
  | .s z _ => z.cps.size = i
def yl (K : PySem.W.Frag) (i : Nat) (x : V) (H : Hp) : SK → Prop
  | .l a => ∀ xs, SqL K H a xs → xs[i]? = some x
  | .t a => ∀ xs, SqT K H a xs → xs[i]? = some x
  | .s z _ => ∃ c, z.cps[i]? = some c ∧ x = .str ⟨#[c]⟩
/-- the source stands in the heap -/
def on (h : Heap) : SK → Prop
  | .l a => ∃ its, h.IsList a its
  | .t a => ∃ its, h.IsTuple a its
  | .s _ _ => True
/-- the size at which the walk ends, or goes past -/
theorem draw {X : Cx} {pins : List (Addr × Obj)} {σ : L2.St} {H : Hp} {s : Shared} {q : Addr} {i : Nat} (I : Inv X pins σ H s) (hc : X.calm = true) (k : SK) (st : k.it q i s.heap) (hh : (∃ x, k.has X.K i x H) ∨ k.fin X.K i H) :
    ∃ (n : Nat) (P : Nat → Value → Prop) (St : Nat → Heap → Prop), Draws X.prog X.w X.A.in1 q (k.fp q) n P St ∧ St i s.heap ∧ (∀ x, k.has X.K i x H → i < n ∧ k.yl X.K i x H ∧ ∀ u, P i u → RelV x u) ∧ (k.fin X.K i H → n = i) ∧ ∀ j h, St j h → k.it q j h := by
  have hd : X.A.in1.handled = none := I.ok.hd hc
  cases k with
  | l a =>
    have hq : ∃ xs, SqL X.K H a xs := by
      rcases hh with ⟨x, xs, h, _⟩ | ⟨xs, h, _⟩ <;> exact ⟨xs, h⟩
    obtain ⟨xs, hq⟩ := hq
    obtain ⟨its, rv, p, _⟩ := I.list hq
    have hl := rv.length
    have st' : s.heap.IsListIter q a i := st
    have hne : a ≠ q := by
      rintro rfl
      obtain ⟨o, h1, h2, _⟩ := st'
      obtain ⟨o', h1', h2', _⟩ := p.isList
      rw [h1] at h1'
      cases h1'
      rw [h2] at h2'
      simp at h2'
    refine ⟨_, _, _, Draws.list hd q a hne its.toArray, ⟨st', p.isList⟩, ?_, ?_, fun j h z => z.1⟩
    · rintro x ⟨ys, hy, hx⟩
      cases I.list_inj hy hq
      obtain ⟨u, hu, ru⟩ := rv.get hx
      have hi := lt_of_get hx
      refine ⟨by simpa [hl] using hi, fun zs hz => by rw [I.list_inj hz hq]; exact hx, fun u' hu' => ?_⟩
      have : its.toArray[i]? = some u := by simpa using hu
      rw [this] at hu'
      cases hu'
      exact ru
    · rintro ⟨ys, hy, hx⟩
      cases I.list_inj hy hq
      simpa [hl] using hx
  | t a =>
    have hq : ∃ xs, SqT X.K H a xs := by
      rcases hh with ⟨x, xs, h, _⟩ | ⟨xs, h, _⟩ <;> exact ⟨xs, h⟩
    obtain ⟨xs, hq⟩ := hq
    obtain ⟨its, rv, p, _⟩ := I.tuple hq
    have hl := rv.length
    have st' : s.heap.IsTupleIter q a i := st
    have p' : s.heap.IsTuple a its.toArray := p
    have hne : a ≠ q := by
      rintro rfl
      obtain ⟨o, h1, h2, _⟩ := st'
      obtain ⟨o', h1', h2', _⟩ := p'
      rw [h1] at h1'
      cases h1'
      rw [h2] at h2'
      simp at h2'
    refine ⟨_, _, _, Draws.tuple hd q a hne its.toArray, ⟨st', p'⟩, ?_, ?_, fun j h z => z.1⟩
    · rintro x ⟨ys, hy, hx⟩
      cases I.tuple_inj hy hq
      obtain ⟨u, hu, ru⟩ := rv.get hx
      have hi := lt_of_get hx
      refine ⟨by simpa [hl] using hi, fun zs hz => by rw [I.tuple_inj hz hq]; exact hx, fun u' hu' => ?_⟩
      have : its.toArray[i]? = some u := by simpa using hu
      rw [this] at hu'
      cases hu'
      exact ru
    · rintro ⟨ys, hy, hx⟩
      cases I.tuple_inj hy hq
      simpa [hl] using hx
  | s z t =>
    refine ⟨_, _, _, Draws.text hd q z t, st, ?_, fun h => h, fun j h z => z⟩
    rintro x ⟨c, hx, rfl⟩
    have hi : i < z.cps.size := (Array.getElem?_eq_some_iff.mp hx).1
    refine ⟨hi, ⟨c, hx, rfl⟩, fun u hu => ?_⟩
    obtain ⟨c', t', h1, rfl⟩ := hu
    rw [hx] at h1
    cases h1
    exact ⟨t', rfl⟩
end SK
/-- what zip tells at each turn -/
def ItS (K : PySem.W.Frag) (k1 k2 : SK) : It :=
  ⟨fun i H => (∃ x, k1.has K i x H) ∧ ∃ y, k2.has K i y H,
    fun i H v H' => ∃ T x y, v = .ref T ∧ H T = none ∧ H' = upd H T (.tup [x, y]) ∧ k1.yl K i x H ∧ k2.yl K i y H,
    fun i H => ((∃ x, k1.has K i x H) ∨ k1.fin K i H) ∧ ((∃ y, k2.has K i y H) ∨ k2.fin K i H) ∧ (k1.fin K i H ∨ k2.fin K i H)⟩
theorem turn_S {P : Program} {w : World} {K : PySem.W.Frag} {elts : List Expr} {kk : Nat} {tpos : Pos} {k1 k2 : SK} {z TI TO i1 i2 : Addr} (D : ZipSep2 z TI TO i1 i2 (k1.fp i1) (k2.fp i2)) :
    Turn P w K (.Tuple elts kk tpos) (ItS K k1 k2) [z, TI, TO, i1, i2] z (fun i h => IsZip h z TI TO .none ∧ IsTupOf2 h TI (.ref i1) (.ref i2) ∧ (∃ x y, IsTupOf2 h TO x y) ∧ k1.it i1 i h ∧ k2.it i2 i h) where
  mem := by simp
  obj := fun i h st c hc => by
    obtain ⟨hz, hTI, ⟨x, y, hTO⟩, h1, h2⟩ := st
    have go : ∀ (k : SK) (q : Addr), k.it q i h → ∃ o, h.get? q = some o ∧ ∀ v, o.data ≠ .cell v := fun k q hq => by
      cases k with
      | l a => obtain ⟨o, e, _, d⟩ := hq; exact ⟨o, e, fun v z => by rw [d] at z; cases z⟩
      | t a => obtain ⟨o, e, _, d⟩ := hq; exact ⟨o, e, fun v z => by rw [d] at z; cases z⟩
      | s a t => obtain ⟨o, e, _, d⟩ := hq; exact ⟨o, e, fun v z => by rw [d] at z; cases z⟩
    simp only [List.mem_cons, List.not_mem_nil, or_false] at hc
    rcases hc with rfl | rfl | rfl | rfl | rfl
    · exact ⟨_, hz, fun v q => nomatch q⟩
    · exact ⟨_, hTI, fun v q => nomatch q⟩
    · exact ⟨_, hTO, fun v q => nomatch q⟩
    · exact go _ _ h1
    · exact go _ _ h2
  keep := fun i h h' st k => by
    obtain ⟨hz, hTI, ⟨x, y, hTO⟩, h1, h2⟩ := st
    have go : ∀ (j : SK) (q : Addr), (∀ o, h.get? q = some o → h'.get? q = some o) → j.it q i h → j.it q i h' := fun j q hk hq => by
      cases j with
      | l a => obtain ⟨o, e, r⟩ := hq; exact ⟨o, hk o e, r⟩
      | t a => obtain ⟨o, e, r⟩ := hq; exact ⟨o, hk o e, r⟩
      | s a t => obtain ⟨o, e, r⟩ := hq; exact ⟨o, hk o e, r⟩
    exact ⟨k z (by simp) _ hz, k TI (by simp) _ hTI, ⟨x, y, k TO (by simp) _ hTO⟩, go _ _ (k i1 (by simp)) h1, go _ _ (k i2 (by simp)) h2⟩
  item := by
    intro X hP hw hK hc i pins s σ H E I hf st hg
    subst hP hw hK
    obtain ⟨hz, hTI, hTO, h1, h2⟩ := st
    obtain ⟨⟨x, g1⟩, y, g2⟩ := hg
    obtain ⟨n1, P1, St1, D1, s1, a1, _, b1⟩ := k1.draw I hc h1 (.inl ⟨x, g1⟩)
    obtain ⟨n2, P2, St2, D2, s2, a2, _, b2⟩ := k2.draw I hc h2 (.inl ⟨y, g2⟩)
    obtain ⟨l1, y1, r1⟩ := a1 x g1
    obtain ⟨l2, y2, r2⟩ := a2 y g2
    have W := WalksT.zipD2 D D1 D2
    refine W.item i s _ _ (Nat.lt_min.mpr ⟨l1, l2⟩) ⟨hz, hTI, hTO, s1, s2⟩ fun T vals h' tk hP hle hT hM hk => ⟨_, rfl, ?_⟩
    refine W.go elts kk tpos i T _ _ _ hM fun h'' hS hk2 => ?_
    obtain ⟨u, u2, p1, p2, rfl⟩ := hP
    obtain ⟨o, ho, hoc, no, hod⟩ := hT
    have hT2 : h''.get? T = some o := hk2 T o (W.apart i T h' hM) ho
    have new : ObjOk X.prog X.w (upd H T (.tup [x, y])) h'' T (.tup [x, y]) :=
      ⟨by show 2 ≤ sizeLine; decide, [u, u2], .cons (r1 u p1) (.cons (r2 u2 p2) .nil), ⟨o, hT2, hoc, no, hod⟩⟩
    have nw : ∀ c, c ∉ [z, TI, TO, i1, i2] → c ∉ [z, TO, i1, i2] := fun c h h' => h (by
      simp only [List.mem_cons, List.not_mem_nil, or_false] at h' ⊢
      rcases h' with h' | h' | h' | h' <;> simp [h'])
    have I1 : Inv X pins σ (upd H T (.tup [x, y])) { s with heap := h'', toks := tk } :=
      I.turnedNew (t' := tk) (ch := [z, TI, TO, i1, i2]) (fun c o hb q => hk2 c o (nw c hb) (hk c o (nw c hb) q)) hf hle new
    obtain ⟨hz3, hTI3, hTO3, s13, s23⟩ := hS
    refine ⟨.ref T, _, I1, rfl, ⟨T, x, y, rfl, I.hok.fresh hle, rfl, y1, y2⟩, ⟨hz3, hTI3, hTO3, b1 _ _ s13, b2 _ _ s23⟩, fun c hcm => ?_⟩
    have hlt : ∃ o, s.heap.get? c = some o := by
      simp only [List.mem_cons, List.not_mem_nil, or_false] at hcm
      obtain ⟨a', b', hTO'⟩ := hTO
      rcases hcm with rfl | rfl | rfl | rfl | rfl
      · exact ⟨_, hz⟩
      · exact ⟨_, hTI⟩
      · exact ⟨_, hTO'⟩
      · exact D1.live _ _ s1
      · exact D2.live _ _ s2
    obtain ⟨o', ho'⟩ := hlt
    rw [upd_ne (Nat.ne_of_lt (Nat.lt_of_lt_of_le (Heap.lt_size ho') hle))]
    exact (hf c hcm).1
  done := by
    intro X hP hw hK hc i pins s σ H E I hf st hg
    subst hP hw hK
    obtain ⟨hz, hTI, hTO, h1, h2⟩ := st
    obtain ⟨g1, g2, ge⟩ := hg
    obtain ⟨n1, P1, St1, D1, s1, a1, c1, b1⟩ := k1.draw I hc h1 g1
    obtain ⟨n2, P2, St2, D2, s2, a2, c2, b2⟩ := k2.draw I hc h2 g2
    have W := WalksT.zipD2 D D1 D2
    have e1 : i ≤ n1 := by
      rcases g1 with ⟨x, h⟩ | h
      · exact Nat.le_of_lt (a1 x h).1
      · exact Nat.le_of_eq (c1 h).symm
    have e2 : i ≤ n2 := by
      rcases g2 with ⟨x, h⟩ | h
      · exact Nat.le_of_lt (a2 x h).1
      · exact Nat.le_of_eq (c2 h).symm
    have em : min n1 n2 = i := by
      rcases ge with h | h
      · rw [c1 h]
        exact Nat.min_eq_left e2
      · rw [c2 h]
        exact Nat.min_eq_right e1
    have nw : ∀ c, c ∉ [z, TI, TO, i1, i2] → c ∉ [z, TO, i1, i2] := fun c h h' => h (by
      simp only [List.mem_cons, List.not_mem_nil, or_false] at h' ⊢
      rcases h' with h' | h' | h' | h' <;> simp [h'])
    exact W.done s _ _ (by rw [em]; exact ⟨hz, hTI, hTO, s1, s2⟩) fun h' tk hk => ⟨rfl, I.turnedL (t' := tk) (ch := [z, TI, TO, i1, i2]) (fun c o hb q => hk c o (nw c hb) q) hf⟩
  self := fun A i s Q E st h => wpAny_pyIter_zip st.1 h
/-- a value that is walked, and as what (the text's token is the run's own) -/
inductive Src (K : PySem.W.Frag) (H : Hp) : V → (Tok → SK) → Prop
  | l {a : Addr} {xs : List V} (h : SqL K H a xs) : Src K H (.ref a) fun _ => .l a
  | t {a : Addr} {xs : List V} (h : SqT K H a xs) : Src K H (.ref a) fun _ => .t a
  | s (z : Str) : Src K H (.str z) fun t => .s z t
def SK.rest : SK → List Addr
  | .l a => [a]
  | .t a => [a]
  | .s _ _ => []
theorem SK.fp_eq (k : SK) (q : Addr) : k.fp q = q :: k.rest := by cases k <;> rfl
/-- how its walk begins -/
theorem Src.begins {X : Cx} {pins : List (Addr × Obj)} {σ : L2.St} {H : Hp} {s : Shared} {v : V} {u : Value} {f : Tok → SK} (h : Src X.K H v f) (I : Inv X pins σ H s) (r : RelV v u) :
    ∃ (t : Tok) (o : Obj) (P : Heap → Prop), Begins u o P ∧ P s.heap ∧ (∀ (h' : Heap) (q : Addr), h'.get? q = some o → (f t).it q 0 h') ∧ ∀ b ∈ (f t).rest, b < s.heap.objs.size := by
  cases h with
  | l hq =>
    obtain ⟨its, rv, p, _⟩ := I.list hq
    cases r
    refine ⟨0, _, _, begins_list _ its.toArray, p.isList, fun h' q e => ⟨_, e, rfl, rfl⟩, fun b hb => ?_⟩
    rw [List.mem_singleton.mp hb]
    exact p.lt
  | t hq =>
    obtain ⟨its, rv, p, _⟩ := I.tuple hq
    cases r
    refine ⟨0, _, _, begins_tuple _ its.toArray, p, fun h' q e => ⟨_, e, rfl, rfl⟩, fun b hb => ?_⟩
    rw [List.mem_singleton.mp hb]
    obtain ⟨o, ho, _⟩ := id p
    exact Heap.lt_size ho
  | s z =>
    obtain ⟨t, rfl⟩ := r
    exact ⟨t, _, _, begins_text z t, trivial, fun h' q e => ⟨_, e, rfl, rfl⟩, fun b hb => by cases hb⟩
def iZipS (K : PySem.W.Frag) (ta : TA) : TI := fun σ H R => ta σ H fun vs H1 => ∃ v1 v2 f1 f2, vs = [v1, v2] ∧ Src K H1 v1 f1 ∧ Src K H1 v2 f2 ∧ ∀ t1 t2, R (ItS K (f1 t1) (f2 t2)) H1
theorem pi_zipS {X : Cx} {e e2 : Expr} {ta : TA} {p pos tpos : Pos} {elts : List Expr} {kk : Nat} (hg : Gl X "zip") (hm : X.mg "zip" = none) (ha : PA X [e, e2] ta)
    (hs : starEach [e, e2] X.env = (false, eval e X.env) :: starEach [e2] X.env := by rfl) (hpl : (backTo pos (starEach [e2] X.env)).any (·.1) = false := by rfl) :
    PI X (.Tuple elts kk tpos) (.Call (.Name "zip" p) [e, e2] [] pos) (iZipS X.K ta) := by
  refine ⟨fun pins s σ H R I h => ?_⟩
  refine Call_ (ld_blt I hg hm PyProof.Rows.boot_zip (PyProof.Rows.callWith_type1 (thn (ha.run pos pins s σ H _ I h) fun us s1 ⟨vs, H1, I1, r1, q1⟩ => ?_) hs hpl))
  obtain ⟨v1, v2, f1, f2, ex, h1, h2, q1⟩ := q1
  subst ex
  cases r1 with
  | cons r rr =>
    cases rr with
    | cons r' rr =>
      cases rr
      obtain ⟨t1, o1, P1, B1, b1, i1, l1⟩ := h1.begins I1 r
      obtain ⟨t2, o2, P2, B2, b2, i2, l2⟩ := h2.begins I1 r'
      refine zip_begins2 B1 B2 b1 b2 fun h' hz hTI hTO g1 g2 hsz hk => wpAny_pyIter_zip hz ?_
      have I2 : Inv X pins σ H1 { s1 with heap := h' } := I1.kept (t' := s1.toks) hk
      have D : ZipSep2 (s1.heap.objs.size + 4) (s1.heap.objs.size + 2) (s1.heap.objs.size + 3) s1.heap.objs.size (s1.heap.objs.size + 1) ((f1 t1).fp s1.heap.objs.size) ((f2 t2).fp (s1.heap.objs.size + 1)) := by
        rw [SK.fp_eq, SK.fp_eq]
        exact zip_sep2 l1 l2
      refine ⟨_, [s1.heap.objs.size + 4, s1.heap.objs.size + 2, s1.heap.objs.size + 3, s1.heap.objs.size, s1.heap.objs.size + 1], _, _, H1, rfl, I2, turn_S D, ⟨hz, hTI, ⟨_, _, hTO⟩, i1 _ _ g1, i2 _ _ g2⟩, fun c hcm => ?_, q1 t1 t2⟩
      have hle : s1.heap.objs.size ≤ c := by
        simp only [List.mem_cons, List.not_mem_nil, or_false] at hcm
        rcases hcm with z | z | z | z | z
        · rw [z]; exact Nat.le_add_right _ _
        · rw [z]; exact Nat.le_add_right _ _
        · rw [z]; exact Nat.le_add_right _ _
        · rw [z]; exact Nat.le_refl _
        · rw [z]; exact Nat.le_add_right _ _
      exact I1.fpOk hle (I1.hok.fresh hle)
/-! enumerate -/
def ItN (K : PySem.W.Frag) (k : SK) : It :=
  ⟨fun i H => ∃ x, k.has K i x H,
    fun i H v H' => ∃ T x, v = .ref T ∧ H T = none ∧ H' = upd H T (.tup [.int (i : Int), x]) ∧ k.yl K i x H,
    fun i H => k.fin K i H⟩
theorem turn_N {P : Program} {w : World} {K : PySem.W.Frag} {elts : List Expr} {kk : Nat} {tpos : Pos} {k : SK} {e q : Addr} (h1 : e ≠ q) (h2 : e ∉ k.fp q) :
    Turn P w K (.Tuple elts kk tpos) (ItN K k) [e, q] e (fun i h => (∃ old, IsEnum h e q (0 + (i : Int)) old) ∧ k.it q i h) where
  mem := by simp
  obj := fun i h st c hc => by
    obtain ⟨⟨old, he⟩, hq⟩ := st
    simp only [List.mem_cons, List.not_mem_nil, or_false] at hc
    rcases hc with rfl | rfl
    · exact ⟨_, he, fun v q => nomatch q⟩
    · cases k with
      | l a => obtain ⟨o, e, _, d⟩ := hq; exact ⟨o, e, fun v z => by rw [d] at z; cases z⟩
      | t a => obtain ⟨o, e, _, d⟩ := hq; exact ⟨o, e, fun v z => by rw [d] at z; cases z⟩
      | s a t => obtain ⟨o, e, _, d⟩ := hq; exact ⟨o, e, fun v z => by rw [d] at z; cases z⟩
  keep := fun i h h' st kp => by
    obtain ⟨⟨old, he⟩, hq⟩ := st
    refine ⟨⟨old, kp e (by simp) _ he⟩, ?_⟩
    have hk := kp q (by simp)
    cases k with
    | l a => obtain ⟨o, e, r⟩ := hq; exact ⟨o, hk o e, r⟩
    | t a => obtain ⟨o, e, r⟩ := hq; exact ⟨o, hk o e, r⟩
    | s a t => obtain ⟨o, e, r⟩ := hq; exact ⟨o, hk o e, r⟩
  item := by
    intro X hP hw hK hc i pins s σ H E I hf st hg
    subst hP hw hK
    obtain ⟨⟨old, he⟩, hq⟩ := st
    obtain ⟨x, g1⟩ := hg
    obtain ⟨n1, P1, St1, D1, s1, a1, _, b1⟩ := k.draw I hc hq (.inl ⟨x, g1⟩)
    obtain ⟨l1, y1, r1⟩ := a1 x g1
    have hif : q ∈ k.fp q := by rw [SK.fp_eq]; simp
    have W := WalksT.enumFrom 0 D1 e h1 h2 hif
    refine W.item i s _ _ l1 ⟨⟨old, he⟩, s1⟩ fun T vals h' tk hP hle hT hM hk => ⟨_, rfl, ?_⟩
    refine W.go elts kk tpos i T _ _ _ hM fun h'' hS hk2 => ?_
    obtain ⟨t, u, p1, rfl⟩ := hP
    obtain ⟨o, ho, hoc, no, hod⟩ := hT
    have hT2 : h''.get? T = some o := hk2 T o (W.apart i T h' hM) ho
    have e0 : (0 : Int) + (i : Int) = (i : Int) := Int.zero_add _
    have new : ObjOk X.prog X.w (upd H T (.tup [.int (i : Int), x])) h'' T (.tup [.int (i : Int), x]) :=
      ⟨by show 2 ≤ sizeLine; decide, [.int (0 + (i : Int)) t, u], .cons ⟨t, by rw [e0]⟩ (.cons (r1 u p1) .nil), ⟨o, hT2, hoc, no, hod⟩⟩
    have I1 : Inv X pins σ (upd H T (.tup [.int (i : Int), x])) { s with heap := h'', toks := tk } :=
      I.turnedNew (t' := tk) (ch := [e, q]) (fun c o hb q => hk2 c o hb (hk c o hb q)) hf hle new
    obtain ⟨he3, s13⟩ := hS
    refine ⟨.ref T, _, I1, rfl, ⟨T, x, rfl, I.hok.fresh hle, rfl, y1⟩, ⟨he3, b1 _ _ s13⟩, fun c hcm => ?_⟩
    have hlt : ∃ o, s.heap.get? c = some o := by
      simp only [List.mem_cons, List.not_mem_nil, or_false] at hcm
      rcases hcm with rfl | rfl
      · exact ⟨_, he⟩
      · exact D1.live _ _ s1
    obtain ⟨o', ho'⟩ := hlt
    rw [upd_ne (Nat.ne_of_lt (Nat.lt_of_lt_of_le (Heap.lt_size ho') hle))]
    exact (hf c hcm).1
  done := by
    intro X hP hw hK hc i pins s σ H E I hf st hg
    subst hP hw hK
    obtain ⟨⟨old, he⟩, hq⟩ := st
    obtain ⟨n1, P1, St1, D1, s1, a1, c1, b1⟩ := k.draw I hc hq (.inr hg)
    have hif : q ∈ k.fp q := by rw [SK.fp_eq]; simp
    have W := WalksT.enumFrom 0 D1 e h1 h2 hif
    exact W.done s _ _ (by rw [c1 hg]; exact ⟨⟨old, he⟩, s1⟩) fun h' tk hk => ⟨rfl, I.turnedL (t' := tk) (ch := [e, q]) (fun c o hb q => hk c o hb q) hf⟩
  self := fun A i s Q E st h => by
    obtain ⟨⟨old, he⟩, _⟩ := st
    exact wpAny_pyIter_enum he h
end DL
namespace DL
open PySem PySem.Spec PyProof.Rows L2
variable [PWd]

/-! ### enumerate(v) begins, v of any kind -/
theorem meets_enum1 {v : Value} {o : Obj} {H : Heap → Prop} (B : Begins v o H) :
    Meets (Builtin.«enumerate.__new__» ⟨[.type "enumerate", v], []⟩) (fun _ R s => H s.heap ∧
      R (.ok (.ret (.ref (s.heap.push o).objs.size))) { s with heap := (s.heap.push o).push { cls := .type "enumerate", data := .fields #[.none, .bool false, .ref s.heap.objs.size, rawInt 0, .none, .none] } }) := by
  refine .of_wp fun prog w A R s h => ?_
  obtain ⟨hp, g, d, tk, os⟩ := s
  obtain ⟨h1, h⟩ := h
  have hsub := sub_enumerate
  have q : ∀ {A' : Around} {E : Value → Shared → Prop} {Q : Value → Shared → Prop}, Q (.ref hp.objs.size) ⟨hp.push o, g, d, tk, os⟩ → wpAny (model prog w) A' (pyIter v) Q E ⟨hp, g, d, tk, os⟩ := fun z => B.iter prog w _ _ ⟨hp, g, d, tk, os⟩ _ h1 z
  wp_walk using q
  refine wpAny_stack_any fun st => wpAny_pure ?_
  split
  · rename_i c _ _ _ _ _
    cases (c == Value.type "enumerate")
    · wp_walk using q
      exact ⟨_, rfl, h⟩
    · wp_walk using q
      exact ⟨_, rfl, h⟩
  · wp_walk using q
    exact ⟨_, rfl, h⟩
def iEnumS (K : PySem.W.Frag) (ta : TA) : TI := fun σ H R => ta σ H fun vs H1 => ∃ v f, vs = [v] ∧ Src K H1 v f ∧ ∀ t, R (ItN K (f t)) H1
theorem pi_enumS {X : Cx} {e : Expr} {ta : TA} {p pos tpos : Pos} {elts : List Expr} {kk : Nat} (hg : Gl X "enumerate") (hm : X.mg "enumerate" = none) (ha : PA X [e] ta) (hs : starEach [e] X.env = [(false, eval e X.env)] := by rfl) :
    PI X (.Tuple elts kk tpos) (.Call (.Name "enumerate" p) [e] [] pos) (iEnumS X.K ta) := by
  refine ⟨fun pins s σ H R I h => ?_⟩
  refine Call_ (ld_blt I hg hm boot_enumerate (PyProof.Rows.callWith_type1 (thn (ha.run pos pins s σ H _ I h) fun us s1 ⟨vs, H1, I1, r1, q1⟩ => ?_) hs rfl))
  obtain ⟨v, f, ex, hsrc, q⟩ := q1
  subst ex
  cases r1 with
  | cons r rr =>
    cases rr
    obtain ⟨t, o, P, B, b, i, l⟩ := hsrc.begins I1 r
    refine callType_new F.called_enumerate (by decide) (F.typeCall_enumerate_1 _) (F.newCall_enumerate_1 _) (fun obj => F.args_object_init_2 obj _) F.entry_enumerate_new (meets_enum1 B) ⟨b, ?_⟩
    show _ ∧ _
    have hz : (s1.heap.push o).objs.size = s1.heap.objs.size + 1 := Heap.size_push ..
    have he : IsEnum ((s1.heap.push o).push { cls := .type "enumerate", data := .fields #[.none, .bool false, .ref s1.heap.objs.size, rawInt 0, .none, .none] }) (s1.heap.push o).objs.size s1.heap.objs.size 0 .none := Heap.get?_push_size _ rfl
    have hk : ∀ c w, s1.heap.get? c = some w → ((s1.heap.push o).push { cls := .type "enumerate", data := .fields #[.none, .bool false, .ref s1.heap.objs.size, rawInt 0, .none, .none] }).get? c = some w := fun c w e => Heap.get?_push_of_some _ (Heap.get?_push_of_some _ e)
    have g1 : ((s1.heap.push o).push { cls := .type "enumerate", data := .fields #[.none, .bool false, .ref s1.heap.objs.size, rawInt 0, .none, .none] }).get? s1.heap.objs.size = some o := Heap.get?_push_of_some _ (Heap.get?_push_size _ B.free)
    rw [hz] at he ⊢
    refine ⟨⟨_, he, rfl⟩, wpAny_pyIter_enum he ?_⟩
    have I2 : Inv X pins σ H1 { s1 with heap := (s1.heap.push o).push { cls := .type "enumerate", data := .fields #[.none, .bool false, .ref s1.heap.objs.size, rawInt 0, .none, .none] } } := I1.kept (t' := s1.toks) hk
    have hne : (s1.heap.objs.size + 1 : Nat) ≠ s1.heap.objs.size := Nat.succ_ne_self _
    have hnf : (s1.heap.objs.size + 1 : Nat) ∉ (f t).fp s1.heap.objs.size := by
      rw [SK.fp_eq]
      intro z
      rcases List.mem_cons.mp z with z | z
      · exact hne z
      · exact Nat.not_lt.mpr (Nat.le_add_right _ 1) (l _ z)
    refine ⟨_, [s1.heap.objs.size + 1, s1.heap.objs.size], _, _, H1, rfl, I2, turn_N hne hnf, ⟨⟨.none, he⟩, i _ _ g1⟩, fun c hcm => ?_, q t⟩
    have hle : s1.heap.objs.size ≤ c := by
      simp only [List.mem_cons, List.not_mem_nil, or_false] at hcm
      rcases hcm with z | z
      · rw [z]; exact Nat.le_add_right _ _
      · rw [z]; exact Nat.le_refl _
    exact I1.fpOk hle (I1.hok.fresh hle)

/-! ### the readings -/
/-- what a walked value holds, and what must stay as it is while it is walked -/
def srcAt (d : D) (S : Sto) (R : List D → (Sto → Prop) → Prop) : Prop := match d with
  | .tup xs => R xs noG
  | .str z => R (z.cps.toList.map fun c => .str ⟨#[c]⟩) noG
  | .ref n => iterAt n S R
  | _ => False
def zipD (xs ys : List D) : List D := List.zipWith (fun x y => .tup [x, y]) xs ys
def enumD : Nat → List D → List D
  | _, [] => []
  | i, x :: r => .tup [.int (i : Int), x] :: enumD (i + 1) r
def iZip (t u : TD) : TDI := fun Rx ρ S R => t Rx ρ S fun d S1 => u Rx ρ S1 fun e S2 => srcAt d S2 fun xs G => srcAt e S2 fun ys G' => R (zipD xs ys) (fun S => G S ∧ G' S) S2
def iEnum (t : TD) : TDI := fun Rx ρ S R => t Rx ρ S fun d S1 => srcAt d S1 fun xs G => R (enumD 0 xs) G S1
/-- a source of the lower layer that tells these -/
structure SrcD (K : PySem.W.Frag) (H : Hp) (μ : List Addr) (k : SK) (xs : List D) (G : Sto → Prop) : Prop where
  has : ∀ H' μ' S, Ext K H μ H' μ' → Sim K H' μ' S → G S → (∀ i, i < xs.length → ∃ x, k.has K i x H') ∧ k.fin K xs.length H'
  yl : ∀ H' μ' S, Ext K H μ H' μ' → Sim K H' μ' S → G S → ∀ i x d, k.yl K i x H' → xs[i]? = some d → Rep K H' μ' d x
theorem src_of {K : PySem.W.Frag} {H : Hp} {μ : List Addr} {S : Sto} {d : D} {v : V} {R : List D → (Sto → Prop) → Prop} (s : Sim K H μ S) (r : Rep K H μ d v) (h : srcAt d S R) : ∃ f xs G, Src K H v f ∧ R xs G ∧ ∀ t, SrcD K H μ (f t) xs G := by
  unfold srcAt at h
  split at h
  · cases r with | tup t q =>
    refine ⟨_, _, _, .t t, h, fun _ => ⟨fun H' μ' S e s' _ => ⟨fun i hi => ?_, _, e.tup _ _ t, q.length.symm⟩, fun H' μ' S e s' _ i x d hy hd => ?_⟩⟩
    · have hi' := q.length ▸ hi
      exact ⟨_, _, e.tup _ _ t, List.getElem?_eq_getElem hi'⟩
    · obtain ⟨u, hu, ru⟩ := (q.mono e).get hd
      have := hy _ (e.tup _ _ t)
      rw [hu] at this
      cases this
      exact ru
  · rename_i z
    cases r
    refine ⟨_, _, _, .s z, h, fun t => ⟨fun H' μ' S e s' _ => ⟨fun i hi => ?_, ?_⟩, fun H' μ' S e s' _ i x d hy hd => ?_⟩⟩
    · rw [List.length_map, Array.length_toList] at hi
      exact ⟨_, _, Array.getElem?_eq_getElem hi, rfl⟩
    · show z.cps.size = _
      rw [List.length_map, Array.length_toList]
    · obtain ⟨c, hc, rfl⟩ := hy
      rw [List.getElem?_map, Array.getElem?_toList, hc] at hd
      cases hd
      exact .str _
  · cases r with | ref g =>
    obtain ⟨xs, h⟩ := iter_inv h
    rcases h with ⟨g', h⟩ | ⟨g', h⟩
    · obtain ⟨vs, hv, q⟩ := s.lst g g'
      refine ⟨_, _, _, .l (SqL.of hv), h, fun t => ⟨fun H' μ' S e s' hS => ?_, fun H' μ' S e s' hS i x d hy hd => ?_⟩⟩
      · obtain ⟨ws, hw, qw⟩ := s'.lst (e.mu _ _ g) hS
        exact ⟨fun i hi => ⟨_, _, SqL.of hw, List.getElem?_eq_getElem (qw.length ▸ hi)⟩, _, SqL.of hw, qw.length.symm⟩
      · obtain ⟨ws, hw, qw⟩ := s'.lst (e.mu _ _ g) hS
        obtain ⟨u, hu, ru⟩ := qw.get hd
        have := hy _ (SqL.of hw)
        rw [hu] at this
        cases this
        exact ru
    · obtain ⟨vs, hv, q⟩ := s.fix g g'
      refine ⟨_, _, _, .l hv.sql, h, fun t => ⟨fun H' μ' S e s' hS => ?_, fun H' μ' S e s' hS i x d hy hd => ?_⟩⟩
      · obtain ⟨ws, hw, qw⟩ := s'.fix (e.mu _ _ g) hS
        exact ⟨fun i hi => ⟨_, _, hw.sql, List.getElem?_eq_getElem (qw.length ▸ hi)⟩, _, hw.sql, qw.length.symm⟩
      · obtain ⟨ws, hw, qw⟩ := s'.fix (e.mu _ _ g) hS
        obtain ⟨u, hu, ru⟩ := qw.get hd
        have := hy _ hw.sql
        rw [hu] at this
        cases this
        exact ru
  · exact h.elim
theorem enumD_length : ∀ (xs : List D) (i : Nat), (enumD i xs).length = xs.length
  | [], _ => rfl
  | x :: r, i => by
    show (enumD (i + 1) r).length + 1 = r.length + 1
    rw [enumD_length r]
theorem enumD_get : ∀ (xs : List D) (j i : Nat), (enumD j xs)[i]? = xs[i]?.map fun x => .tup [.int ((j + i : Nat) : Int), x]
  | [], _, _ => by simp [enumD]
  | x :: r, j, 0 => by simp [enumD]
  | x :: r, j, i + 1 => by
    show (enumD (j + 1) r)[i]? = _
    rw [enumD_get r (j + 1) i, List.getElem?_cons_succ, show j + 1 + i = j + (i + 1) by omega]
theorem wd_enum {K : PySem.W.Frag} {H : Hp} {μ : List Addr} {k : SK} {xs : List D} {G : Sto → Prop} (h : SrcD K H μ k xs G) : WalkD K H μ (ItN K k) (enumD 0 xs) G := by
  refine ⟨fun H' => (∀ i, i < xs.length → ∃ x, k.has K i x H') ∧ k.fin K xs.length H', fun i H' v H'' => (ItN K k).yld i H' v H'', ⟨?_, ?_, ?_⟩, fun H' μ' S e s g => h.has H' μ' S e s g, ?_⟩
  · intro i H' hi hg
    rw [enumD_length] at hi
    exact hg.1 i hi
  · intro H' hg
    rw [enumD_length]
    exact hg.2
  · intro i H' x H'' _ _ y
    exact y
  · rintro i v H' H'' μ' S d e s hS hd ⟨T, x, rfl, hT, rfl, hy⟩
    rw [enumD_get, Nat.zero_add] at hd
    cases hx : xs[i]? with
    | none => rw [hx] at hd; cases hd
    | some d' =>
      rw [hx] at hd
      cases hd
      exact s.newTup hT (.cons (.int _) (.cons (h.yl H' μ' S e s hS i x d' hy hx) .nil))
theorem wd_zip {K : PySem.W.Frag} {H : Hp} {μ : List Addr} {k k' : SK} {xs ys : List D} {G G' : Sto → Prop} (h : SrcD K H μ k xs G) (h' : SrcD K H μ k' ys G') : WalkD K H μ (ItS K k k') (zipD xs ys) (fun S => G S ∧ G' S) := by
  have hl : (zipD xs ys).length = min xs.length ys.length := by unfold zipD; rw [List.length_zipWith]
  refine ⟨fun H' => ((∀ i, i < xs.length → ∃ x, k.has K i x H') ∧ k.fin K xs.length H') ∧ ((∀ i, i < ys.length → ∃ x, k'.has K i x H') ∧ k'.fin K ys.length H'), fun i H' v H'' => (ItS K k k').yld i H' v H'', ⟨?_, ?_, ?_⟩, fun H' μ' S e s g => ⟨h.has H' μ' S e s g.1, h'.has H' μ' S e s g.2⟩, ?_⟩
  · intro i H' hi hg
    rw [hl] at hi
    exact ⟨hg.1.1 i (by omega), hg.2.1 i (by omega)⟩
  · intro H' hg
    rw [hl]
    obtain ⟨⟨a1, a2⟩, b1, b2⟩ := hg
    refine ⟨?_, ?_, ?_⟩
    · by_cases hh : xs.length ≤ ys.length
      · exact .inr (by rw [Nat.min_eq_left hh]; exact a2)
      · exact .inl (a1 _ (by omega))
    · by_cases hh : ys.length ≤ xs.length
      · exact .inr (by rw [Nat.min_eq_right hh]; exact b2)
      · exact .inl (b1 _ (by omega))
    · by_cases hh : xs.length ≤ ys.length
      · exact .inl (by rw [Nat.min_eq_left hh]; exact a2)
      · exact .inr (by rw [Nat.min_eq_right (by omega)]; exact b2)
  · intro i H' x H'' _ _ y
    exact y
  · rintro i v H' H'' μ' S d e s hS hd ⟨T, x, y, rfl, hT, rfl, hy, hy'⟩
    unfold zipD at hd
    rw [List.getElem?_zipWith] at hd
    cases hx : xs[i]? with
    | none => rw [hx] at hd; cases hd
    | some d1 =>
      cases hx' : ys[i]? with
      | none => rw [hx, hx'] at hd; cases hd
      | some d2 =>
        rw [hx, hx'] at hd
        cases hd
        exact s.newTup hT (.cons (h.yl H' μ' S e s hS.1 i x d1 hy hx) (.cons (h'.yl H' μ' S e s hS.2 i y d2 hy' hx') .nil))
section
variable {X : Cx} {W : WX} {a b : Expr} {ta tb : TD} {pos tpos : Pos} {elts : List Expr} {kk : Nat}
theorem di_enum {p : Pos} (hm : X.mg "enumerate" = none) (ha : PE X a (dE X.K W ta)) (hg : Gl X "enumerate" := by rfl) (hs : starEach [a] X.env = [(false, eval a X.env)] := by rfl) : PI X (.Tuple elts kk tpos) (.Call (.Name "enumerate" p) [a] [] pos) (dI X.K W (iEnum ta)) := by
  refine (pi_enumS hg hm (pa_cons ha pa_nil hs) hs).imp fun σ H R ⟨ρ, μ, S, Rd, Rx, at_, h, ox, k⟩ => ?_
  refine ⟨ρ, μ, S, _, Rx, at_, h, fun d S' v μ' H' h' e s r => ?_, ox⟩
  obtain ⟨f, xs, G, h1, h2, h3⟩ := src_of s r h'
  exact ⟨_, f, rfl, h1, fun t => k _ _ _ _ _ _ h2 e s (wd_enum (h3 t))⟩
theorem di_zip {p : Pos} (hm : X.mg "zip" = none) (ha : PE X a (dE X.K W ta)) (hb : PE X b (dE X.K W tb)) (hg : Gl X "zip" := by rfl) (hs : starEach [a, b] X.env = (false, eval a X.env) :: starEach [b] X.env := by rfl) (hs2 : starEach [b] X.env = [(false, eval b X.env)] := by rfl) (hpl : (backTo pos (starEach [b] X.env)).any (·.1) = false := by rfl) :
    PI X (.Tuple elts kk tpos) (.Call (.Name "zip" p) [a, b] [] pos) (dI X.K W (iZip ta tb)) := by
  refine (pi_zipS hg hm (pa_cons ha (pa_cons hb pa_nil hs2) hs) hs hpl).imp fun σ H R ⟨ρ, μ, S, Rd, Rx, at_, h, ox, k⟩ => ?_
  refine ⟨ρ, μ, S, _, Rx, at_, h, fun x S1 v μ1 H1 h1 e1 s1 r1 => ?_, ox⟩
  refine ⟨ρ, μ1, S1, _, Rx, ⟨at_.env.mono e1, s1⟩, h1, fun y S2 w μ2 H2 h2 e2 s2 r2 => ?_, ox.ext e1⟩
  obtain ⟨f, xs, G, g1, h3, g3⟩ := src_of s2 (r1.mono e2) h2
  obtain ⟨f', ys, G', g1', h4, g3'⟩ := src_of s2 r2 h3
  exact ⟨_, _, f, f', rfl, g1, g1', fun t t' => k _ _ _ _ _ _ h4 (e1.trans e2) s2 (wd_zip (g3 t) (g3' t'))⟩
end
end DL
namespace DL
open PySem PySem.Spec PyProof.Rows L2
variable [PWd]

/-! ### sums, the greater and the lesser of two -/
theorem reps_ints {K : PySem.W.Frag} {H : Hp} {μ : List Addr} : ∀ {ns : List Int} {vs : List V}, Reps K H μ (ns.map D.int) vs → vs = ns.map V.int
  | [], _, .nil => rfl
  | n :: ns, _, .cons (.int _) t => by rw [reps_ints (ns := ns) t]; rfl
def sumD : OC := fun xs S R => match xs with
  | [.ref n] => lstAt n S fun xs => ∃ ns : List Int, xs = ns.map D.int ∧ R (.int ns.sum) S
  | _ => False
theorem br_sum {X : Cx} : BrC X.K (rSum X.K) sumD := by
  intro xs S R vs μ H Q s r h ok
  unfold sumD at h
  split at h
  · cases r with | cons r1 r2 =>
    cases r2
    cases r1 with | ref g =>
    obtain ⟨xs, e, ns, rfl, h⟩ := lst_inv h
    obtain ⟨vs, hv, q⟩ := s.lstR g e
    cases reps_ints q
    exact ⟨_, ns, rfl, hv, ok _ _ _ _ _ h Ext.refl s (.int _)⟩
  · exact h.elim
def maxD : OC := fun xs S R => match xs with
  | [.int i, .int j] => R (.int (if j > i then j else i)) S
  | _ => False
def minD : OC := fun xs S R => match xs with
  | [.int i, .int j] => R (.int (if j < i then j else i)) S
  | _ => False
theorem br_max {X : Cx} : BrC X.K (fun xs H Q => ∃ i j, xs = [.int i, .int j] ∧ Q (.int (if j > i then j else i)) H) maxD := by
  intro xs S R vs μ H Q s r h ok
  unfold maxD at h
  split at h
  · cases r with | cons r1 r2 =>
    cases r2 with | cons r2 r3 =>
    cases r3
    cases r1
    cases r2
    exact ⟨_, _, rfl, ok _ _ _ _ _ h Ext.refl s (.int _)⟩
  · exact h.elim
theorem br_min {X : Cx} : BrC X.K (fun xs H Q => ∃ i j, xs = [.int i, .int j] ∧ Q (.int (if j < i then j else i)) H) minD := by
  intro xs S R vs μ H Q s r h ok
  unfold minD at h
  split at h
  · cases r with | cons r1 r2 =>
    cases r2 with | cons r2 r3 =>
    cases r3
    cases r1
    cases r2
    exact ⟨_, _, rfl, ok _ _ _ _ _ h Ext.refl s (.int _)⟩
  · exact h.elim
end DL
namespace DL
open PySem PySem.Spec PyProof.Rows L2
variable [PWd]

/-! ### loops by what holds at each turn -/
/-- a comprehension: J j acc S holds when j items are walked and acc is told -/
theorem lc_ind {n : Nat} {G : Sto → Prop} {g : TDG} {tt : TDT} {te : TD} {ρ : Ev} {Rq : Sto → Prop} (J : Nat → List D → Sto → Prop) (xs : List D)
    (hJ : ∀ j acc S, J j acc S → G S ∧ S[n]? = some (.lst acc) ∧ acc.length ≤ 100000)
    (step : ∀ j x acc S (R : RD) (Z : Sto → Prop), xs[j]? = some x → J j acc S → (∀ d S', S'[n]? = some (.lst acc) → J (j + 1) (acc ++ [d]) (S'.set n (.lst (acc ++ [d]))) → R d S') → (∀ S', J (j + 1) acc S' → Z S') →
      g x ρ S fun ρ1 S1 => tt noX ρ1 S1 fun b S2 => ift b (te noX ρ1 S2 R) (Z S2))
    {S : Sto} {acc : List D} (h0 : J 0 acc S) (done : ∀ acc S, J xs.length acc S → Rq S) : lcW n G g tt te ρ Rq xs S := by
  have go : ∀ (ys : List D) (j : Nat) (acc : List D) (S : Sto), j ≤ xs.length → xs.drop j = ys → J j acc S → lcW n G g tt te ρ Rq ys S := by
    intro ys
    induction ys with
    | nil =>
      intro j acc S hle hj h
      have hlen : xs.length ≤ j := List.drop_eq_nil_iff.mp hj
      obtain rfl : j = xs.length := by omega
      exact ⟨(hJ _ _ _ h).1, done _ _ h⟩
    | cons y ys ih =>
      intro j acc S hle hj h
      have hlt : j < xs.length := by
        apply Decidable.byContradiction
        intro hn
        rw [List.drop_eq_nil_of_le (by omega)] at hj
        cases hj
      rw [List.drop_eq_getElem_cons hlt] at hj
      cases hj
      obtain ⟨h1, h2, h3⟩ := hJ _ _ _ h
      refine ⟨h1, step j _ acc S _ _ (List.getElem?_eq_getElem hlt) h (fun d S' hs hj' => ?_) fun S' hj' => ih (j + 1) acc S' hlt rfl hj'⟩
      refine mlst_at hs ⟨?_, ih (j + 1) _ _ hlt rfl hj'⟩
      have : 100000 < sizeLine := by decide
      omega
  exact go xs 0 acc S (Nat.zero_le _) rfl h0
/-- a for: J j ρ S holds when j items are walked -/
theorem for_ind {G : Sto → Prop} {g : TDG} {t : TDS} {E : DEnds} (J : Nat → Ev → Sto → Prop) (xs : List D) (hJ : ∀ j ρ S, J j ρ S → G S)
    (step : ∀ j x ρ S (E' : DEnds), xs[j]? = some x → J j ρ S → E'.rt = E.rt → E'.ex = E.ex → E'.bk = E.nx → (∀ ρ' S', J (j + 1) ρ' S' → E'.nx ρ' S') → (∀ ρ' S', J (j + 1) ρ' S' → E'.ct ρ' S') → g x ρ S fun ρ1 S1 => t E' ρ1 S1)
    {ρ : Ev} {S : Sto} (h0 : J 0 ρ S) (done : ∀ ρ S, J xs.length ρ S → E.nx ρ S) : forW G g t E xs ρ S := by
  have go : ∀ (ys : List D) (j : Nat) (ρ : Ev) (S : Sto), j ≤ xs.length → xs.drop j = ys → J j ρ S → forW G g t E ys ρ S := by
    intro ys
    induction ys with
    | nil =>
      intro j ρ S hle hj h
      have hlen : xs.length ≤ j := List.drop_eq_nil_iff.mp hj
      obtain rfl : j = xs.length := by omega
      exact ⟨hJ _ _ _ h, done _ _ h⟩
    | cons y ys ih =>
      intro j ρ S hle hj h
      have hlt : j < xs.length := by
        apply Decidable.byContradiction
        intro hn
        rw [List.drop_eq_nil_of_le (by omega)] at hj
        cases hj
      rw [List.drop_eq_getElem_cons hlt] at hj
      cases hj
      exact ⟨hJ _ _ _ h, step j _ ρ S _ (List.getElem?_eq_getElem hlt) h rfl rfl rfl (fun ρ' S' hj' => ih (j + 1) ρ' S' hlt rfl hj') fun ρ' S' hj' => ih (j + 1) ρ' S' hlt rfl hj'⟩
  exact go xs 0 ρ S (Nat.zero_le _) rfl h0
/-- a while: J k ρ S holds, k the most turns left -/
theorem while_ind {c : TDT} {t : TDS} {E : DEnds} (J : Nat → Ev → Sto → Prop)
    (step : ∀ k ρ S (A : Ev → Sto → Prop) (B : Ev → Sto → Prop) (E' : DEnds), J k ρ S → E'.rt = E.rt → E'.ex = E.ex → E'.bk = E.nx → (∀ j ρ' S', j < k → J j ρ' S' → E'.nx ρ' S') → (∀ j ρ' S', j < k → J j ρ' S' → E'.ct ρ' S') →
      c (E.x ρ) ρ S fun b S1 => ift b (t E' ρ S1) (E.nx ρ S1))
    {k : Nat} {ρ : Ev} {S : Sto} (h0 : J k ρ S) : whileN c t E (k + 1) ρ S := by
  have go : ∀ (m k : Nat) (ρ : Ev) (S : Sto), k < m → J k ρ S → whileN c t E m ρ S := by
    intro m
    induction m with
    | zero => intro k ρ S h; omega
    | succ m ih =>
      intro k ρ S h hj
      exact step k ρ S (fun _ _ => True) (fun _ _ => True) _ hj rfl rfl rfl (fun j ρ' S' hl hj' => ih j ρ' S' (by omega) hj') fun j ρ' S' hl hj' => ih j ρ' S' (by omega) hj'
  exact go (k + 1) k ρ S (by omega) h0
theorem getElem_range {lo : Int} {n j : Nat} {d : D} (h : (rangeD lo n)[j]? = some d) : j < n ∧ d = .int (lo + (j : Int)) := by
  unfold rangeD at h
  rw [List.getElem?_map] at h
  by_cases hj : j < n
  · rw [List.getElem?_range hj] at h
    cases h
    exact ⟨hj, rfl⟩
  · rw [List.getElem?_eq_none (by rw [List.length_range]; omega)] at h
    cases h
theorem range_len {lo : Int} {n : Nat} : (rangeD lo n).length = n := by unfold rangeD; rw [List.length_map, List.length_range]
theorem ixN_nat {n j : Nat} (h : j < n) : ixN n (j : Int) = some j := by
  unfold ixN
  rw [if_pos (by omega), if_pos (by omega)]
  simp
theorem set_k {xs : List D} {j : Nat} {z : Nat → Prop} (h : j < xs.length) (hz : z j) : setK xs (j : Int) z := by
  unfold setK
  rw [ixN_nat h]
  exact hz
theorem pls_all : ∀ {xs : List D}, (∀ x ∈ xs, Pl x) → Pls xs
  | [], _ => pls_nil
  | x :: r, h => pls_cons.mpr ⟨h x (by simp), pls_all fun y hy => h y (by simp [hy])⟩
theorem wts_cons {x : D} {r : List D} : wts (x :: r) = wt x + wts r := by rw [wts]
theorem wt_tup {xs : List D} : wt (.tup xs) = wts xs + 1 := by rw [wt]
theorem wts_nil : wts [] = 0 := by rw [wts]
theorem wts_le {b : Nat} : ∀ {xs : List D}, (∀ x ∈ xs, wt x ≤ b) → wts xs ≤ b * xs.length
  | [], _ => by rw [wts_nil]; exact Nat.zero_le _
  | x :: r, h => by
    have h1 := h x (by simp)
    have h2 := wts_le (xs := r) fun y hy => h y (by simp [hy])
    rw [wts_cons, List.length_cons, Nat.mul_succ]
    omega
theorem wt_int {i : Int} : wt (.int i) = 1 := by rw [wt]; intro _ z; cases z
theorem wt_str {i : Str} : wt (.str i) = 1 := by rw [wt]; intro _ z; cases z
theorem wt_bl {i : Bool} : wt (.bl i) = 1 := by rw [wt]; intro _ z; cases z
theorem wt_non : wt .non = 1 := by rw [wt]; intro _ z; cases z
/-- pairs.append(..) -/
theorem app_prs {W : List Nat} {p c : Nat} {S : Sto} {x : D} {R : RD} (hp : Prs W p c S) (hx : Good x) (hc : c < 100000) (k : ∀ S', (∀ i, i ≠ p → S'[i]? = S[i]?) → S'.length = S.length → Prs W p (c + 1) S' → R .non S') : appD x p S R := by
  obtain ⟨nW, ps, h1, h2, h3⟩ := hp
  have lp := lt_of_get h1
  have hs : 100000 < sizeLine := by decide
  refine mlst_at h1 ⟨by omega, k _ (fun i hi => List.getElem?_set_ne (Ne.symm hi)) (by simp) ⟨nW, ps ++ [x], List.getElem?_set_self lp, fun y hy => ?_, by simp; omega⟩⟩
  rcases List.mem_append.mp hy with h | h
  · exact h2 y h
  · rw [List.mem_singleton.mp h]; exact hx
theorem Prs.m {W : List Nat} {p c : Nat} {S : Sto} (h : Prs W p c S) : mlstAt p S fun _ => True := by
  obtain ⟨_, ps, h1, _⟩ := h
  exact mlst_at h1 trivial
theorem add_int {i j z : Int} {S : Sto} {R : RD} (e : i + j = z) (h : R (.int z) S) : addD (.int i) (.int j) S R := by
  subst e
  exact h
end DL
namespace DL
open PySem PySem.Spec PyProof.Rows L2
variable [PWd]

/-! ### data: values as the library's data -/
mutual
def toP : D → PyData
  | .non => .none
  | .bl b => .bool b
  | .int i => .int i
  | .str x => .str x
  | .tup xs => .tuple (toPs xs)
  | .ref _ => .none
  | .fn _ => .none
def toPs : List D → List PyData
  | [] => []
  | x :: r => toP x :: toPs r
end
theorem toP_tup {xs : List D} : toP (.tup xs) = .tuple (toPs xs) := by rw [toP]
theorem toPs_cons {x : D} {r : List D} : toPs (x :: r) = toP x :: toPs r := by rw [toPs]
theorem toPs_nil : toPs [] = [] := by rw [toPs]
theorem toP_int {i : Int} : toP (.int i) = .int i := by rw [toP]
theorem toP_str {i : Str} : toP (.str i) = .str i := by rw [toP]
theorem toP_bl {i : Bool} : toP (.bl i) = .bool i := by rw [toP]
theorem toP_non : toP .non = .none := by rw [toP]
theorem toPs_map : ∀ {xs : List D}, toPs xs = xs.map toP
  | [] => by rw [toPs]; rfl
  | x :: r => by rw [toPs, List.map_cons, toPs_map (xs := r)]
section
variable {K : PySem.W.Frag} {H : Hp} {μ : List Addr}
mutual
theorem rep_dp : ∀ {d : D} {v : V}, Rep K H μ d v → Pl d → Dp K H v (toP d)
  | _, _, .non, _ => by rw [toP_non]; exact .non
  | _, _, .bl b, _ => by rw [toP_bl]; exact .bl b
  | _, _, .int i, _ => by rw [toP_int]; exact .int i
  | _, _, .str x, _ => by rw [toP_str]; exact .str x
  | _, _, .tup t q, h => by rw [toP_tup]; exact .tup t (reps_dp q (pl_tup.mp h))
  | _, _, .ref _, h => (pl_ref h).elim
  | _, _, .fn _, h => (pl_fn h).elim
theorem reps_dp : ∀ {ds : List D} {vs : List V}, Reps K H μ ds vs → Pls ds → DpAll K H vs (toPs ds)
  | _, _, .nil, _ => by rw [toPs_nil]; exact .nil
  | _, _, .cons r q, h => by rw [toPs_cons]; exact .cons (rep_dp r (pls_cons.mp h).1) (reps_dp q (pls_cons.mp h).2)
end
end
/-- a value's data: plain, or a list of plain values -/
inductive Dat : D → Sto → PyData → Prop
  | pl {d : D} {S : Sto} (h : Pl d) : Dat d S (toP d)
  | lst {n : Nat} {xs : List D} {S : Sto} (h : S[n]? = some (.lst xs)) (hp : Pls xs) : Dat (.ref n) S (.list (toPs xs))
theorem Dat.dp {K : PySem.W.Frag} {H : Hp} {μ : List Addr} {d : D} {S : Sto} {p : PyData} {v : V} (h : Dat d S p) (s : Sim K H μ S) (r : Rep K H μ d v) : Dp K H v p := by
  cases h with
  | pl h => exact rep_dp r h
  | lst h hp =>
    cases r with | ref g =>
    obtain ⟨vs, hv, q⟩ := s.lst g h
    exact .lst (SqL.of hv) (reps_dp q hp)
inductive eqG (z : Bool) (x y : D) (S : Sto) (R : RD) : Prop
  | mk (p q : PyData) (hx : Dat x S p) (hy : Dat y S q) (h1 : SeqAt.shaped p = true) (h2 : SeqAt.shaped q = true) (h : R (.bl (PyData.eqv p q == z)) S)
def eqA : OD := fun x y S R => match scalD x y with
  | some k => R (.bl k) S
  | none => eqG true x y S R
def neA : OD := fun x y S R => match scalD x y with
  | some k => R (.bl (!k)) S
  | none => eqG false x y S R
def rEqA (K : PySem.W.Frag) : R2 := fun x y H Q => rEq x y H Q ∨ rEqD K x y H Q
def rNeA (K : PySem.W.Frag) : R2 := fun x y H Q => rNe x y H Q ∨ rNeD K x y H Q
section
variable {X : Cx} {W : WX} {a b c : Expr} {ta tb : TD} {pos : Pos} {k : Nat}
theorem op_eqA (hr : Room k X.A) : OpR X (compareOp .Eq) (rEqA X.K) := by
  intro pins s σ H x y v u Q I rx ry h
  rcases h with h | h
  · exact op_eq pins s σ H x y v u Q I rx ry h
  · exact op_eqD (by have := hr.un; omega) pins s σ H x y v u Q I rx ry h
theorem op_neA (hr : Room k X.A) : OpR X (compareOp .NotEq) (rNeA X.K) := by
  intro pins s σ H x y v u Q I rx ry h
  rcases h with h | h
  · exact op_ne pins s σ H x y v u Q I rx ry h
  · exact op_neD (by have := hr.un; omega) pins s σ H x y v u Q I rx ry h
theorem br_eqA : Br2 X.K (rEqA X.K) eqA := by
  intro x y S R vx vy μ H Q s r1 r2 h ok
  unfold eqA at h
  split at h
  · rename_i k e
    obtain ⟨h1, h2⟩ := scal_of r1 r2 e
    refine .inl ⟨h1, ?_⟩
    rw [h2]
    exact ok _ _ _ _ _ h Ext.refl s (.bl _)
  · cases h with | mk p q hx hy h1 h2 h =>
    rw [beq_true] at h
    exact .inr ⟨p, q, hx.dp s r1, hy.dp s r2, h1, h2, ok _ _ _ _ _ h Ext.refl s (.bl _)⟩
theorem br_neA : Br2 X.K (rNeA X.K) neA := by
  intro x y S R vx vy μ H Q s r1 r2 h ok
  unfold neA at h
  split at h
  · rename_i k e
    obtain ⟨h1, h2⟩ := scal_of r1 r2 e
    refine .inl ⟨h1, ?_⟩
    rw [h2]
    exact ok _ _ _ _ _ h Ext.refl s (.bl _)
  · cases h with | mk p q hx hy h1 h2 h =>
    rw [beq_false] at h
    exact .inr ⟨p, q, hx.dp s r1, hy.dp s r2, h1, h2, ok _ _ _ _ _ h Ext.refl s (.bl _)⟩
theorem bl_eqA : ∀ x y S (R : RD), eqA x y S R → eqA x y S fun d S' => R d S' ∧ ∃ k, d = .bl k := by
  intro x y S R h
  unfold eqA at h ⊢
  split at h
  · exact ⟨h, _, rfl⟩
  · cases h with | mk p q hx hy h1 h2 h => exact .mk p q hx hy h1 h2 ⟨h, _, rfl⟩
theorem bl_neA : ∀ x y S (R : RD), neA x y S R → neA x y S fun d S' => R d S' ∧ ∃ k, d = .bl k := by
  intro x y S R h
  unfold neA at h ⊢
  split at h
  · exact ⟨h, _, rfl⟩
  · cases h with | mk p q hx hy h1 h2 h => exact .mk p q hx hy h1 h2 ⟨h, _, rfl⟩
theorem de_eqA (hr : Room k X.A) (ha : PE X a (dE X.K W ta)) (hb : PE X b (dE X.K W tb)) : PE X (.Compare a [.Eq] [b] pos) (dE X.K W (e2 eqA ta tb)) := de_cmp (op_eqA hr) br_eqA ha hb (nomark _)
theorem de_neA (hr : Room k X.A) (ha : PE X a (dE X.K W ta)) (hb : PE X b (dE X.K W tb)) : PE X (.Compare a [.NotEq] [b] pos) (dE X.K W (e2 neA ta tb)) := de_cmp (op_neA hr) br_neA ha hb (nomark _)
theorem dt_eqA (hr : Room k X.A) (ha : PE X a (dE X.K W ta)) (hb : PE X b (dE X.K W tb)) : PT X (.Compare a [.Eq] [b] pos) (dT X.K W (tTru (e2 eqA ta tb))) := dt_cmp (op_eqA hr) br_eqA bl_eqA ha hb (nomark _)
theorem dt_neA (hr : Room k X.A) (ha : PE X a (dE X.K W ta)) (hb : PE X b (dE X.K W tb)) : PT X (.Compare a [.NotEq] [b] pos) (dT X.K W (tTru (e2 neA ta tb))) := dt_cmp (op_neA hr) br_neA bl_neA ha hb (nomark _)
/-! ### in, not in -/
/-- what is asked of a list or a tuple of plain values; of a text: a sign -/
inductive inG (z : Bool) (x y : D) (S : Sto) (R : RD) : Prop
  | lst (p : PyData) (ps : List PyData) (hx : Dat x S p) (hy : Dat y S (.list ps)) (h1 : SeqAt.shaped p = true) (h2 : SeqAt.shaped (.list ps) = true) (h : R (.bl ((ps.any fun q => PyData.eqv q p) == z)) S)
  | tup (p : PyData) (ps : List PyData) (hx : Dat x S p) (hy : Dat y S (.tuple ps)) (h1 : SeqAt.shaped p = true) (h2 : SeqAt.shaped (.tuple ps) = true) (h : R (.bl ((ps.any fun q => PyData.eqv q p) == z)) S)
  | sign (c : Nat) (t : Str) (hx : x = .str ⟨#[c]⟩) (hy : y = .str t) (h : R (.bl (decide (c ∈ t.cps.toList) == z)) S)
  | dic (n : Nat) (t : Bool) (ep : Nat) (kvs : List (D × D)) (hy : y = .ref n) (hd : S[n]? = some (.dic t ep kvs)) (hk : keyB t x = true) (h : R (.bl ((look kvs x).isSome == z)) S)
def rInA (K : PySem.W.Frag) (z : Bool) : R2 := fun x y H Q => (∃ d ds, Dp K H x d ∧ Dp K H y (.list ds) ∧ SeqAt.shaped d = true ∧ SeqAt.shaped (.list ds) = true ∧ Q (.bl ((ds.any fun q => PyData.eqv q d) == z)) H) ∨
  (∃ d ds, Dp K H x d ∧ Dp K H y (.tuple ds) ∧ SeqAt.shaped d = true ∧ SeqAt.shaped (.tuple ds) = true ∧ Q (.bl ((ds.any fun q => PyData.eqv q d) == z)) H) ∨ (∃ (c : Nat) (t : Str), x = .str ⟨#[c]⟩ ∧ y = .str t ∧ Q (.bl (decide (c ∈ t.cps.toList) == z)) H) ∨ rDicIn K z x y H Q
theorem op_inA (hr : Room k X.A) (hw : X.w = PWd.w) : OpR X (compareOp .In) (rInA X.K true) := by
  have hu : X.A.units + 65 < cLine := by have := hr.un; omega
  intro pins s σ H x y v u Q I rx ry h
  rcases h with ⟨d, ds, hd, he, sd, se, q⟩ | ⟨d, ds, hd, he, sd, se, q⟩ | ⟨c, t, h1, h2, q⟩ | q
  · rw [beq_true] at q
    exact op_inD hu pins s σ H x y v u Q I rx ry ⟨d, ds, hd, he, sd, se, q⟩
  · rw [beq_true] at q
    obtain ⟨as, r1⟩ := Dp.reads I d x v hd rx
    obtain ⟨bs, r2⟩ := Dp.reads I (.tuple ds) y u he ry
    exact SeqAt.in_tuple_reads r2 r1 (SeqAt.canLay_of_shaped se) (SeqAt.canLay_of_shaped sd) (PyProof.Rows.room_in_shaped sd hu) ⟨.bl _, H, I, rfl, q⟩
  · rw [beq_true] at q
    exact op_in_sign pins s σ H x y v u Q I rx ry ⟨c, t, h1, h2, q⟩
  · exact op_dicIn hr hw pins s σ H x y v u Q I rx ry q
theorem op_notInA (hr : Room k X.A) (hw : X.w = PWd.w) : OpR X (compareOp .NotIn) (rInA X.K false) := by
  have hu : X.A.units + 65 < cLine := by have := hr.un; omega
  intro pins s σ H x y v u Q I rx ry h
  rcases h with ⟨d, ds, hd, he, sd, se, q⟩ | ⟨d, ds, hd, he, sd, se, q⟩ | ⟨c, t, h1, h2, q⟩ | q
  · rw [beq_false] at q
    exact op_notInD hu pins s σ H x y v u Q I rx ry ⟨d, ds, hd, he, sd, se, q⟩
  · rw [beq_false] at q
    obtain ⟨as, r1⟩ := Dp.reads I d x v hd rx
    obtain ⟨bs, r2⟩ := Dp.reads I (.tuple ds) y u he ry
    exact SeqAt.notIn_tuple_reads r2 r1 (SeqAt.canLay_of_shaped se) (SeqAt.canLay_of_shaped sd) (PyProof.Rows.room_in_shaped sd hu) ⟨.bl _, H, I, rfl, q⟩
  · rw [beq_false] at q
    exact op_notIn_sign pins s σ H x y v u Q I rx ry ⟨c, t, h1, h2, q⟩
  · exact op_dicNotIn hr hw pins s σ H x y v u Q I rx ry q
def inD (z : Bool) : OD := fun x y S R => inG z x y S R
theorem br_in (z : Bool) : Br2 X.K (rInA X.K z) (inD z) := by
  intro x y S R vx vy μ H Q s r1 r2 h ok
  cases h with
  | lst p ps hx hy h1 h2 h => exact .inl ⟨p, ps, hx.dp s r1, hy.dp s r2, h1, h2, ok _ _ _ _ _ h Ext.refl s (.bl _)⟩
  | tup p ps hx hy h1 h2 h => exact .inr (.inl ⟨p, ps, hx.dp s r1, hy.dp s r2, h1, h2, ok _ _ _ _ _ h Ext.refl s (.bl _)⟩)
  | sign c t hx hy h =>
    subst hx
    subst hy
    cases r1
    cases r2
    exact .inr (.inr (.inl ⟨c, t, rfl, rfl, ok _ _ _ _ _ h Ext.refl s (.bl _)⟩))
  | dic n t ep kvs hy hd hk h =>
    subst hy
    cases r2 with | ref g =>
    obtain ⟨xs, da⟩ := s.dic g hd
    exact .inr (.inr (.inr ⟨_, t, ep, kvs, xs, μ, x, rfl, da, r1, hk, ok _ _ _ _ _ h Ext.refl s (.bl _)⟩))
theorem bl_in (z : Bool) : ∀ x y S (R : RD), inD z x y S R → inD z x y S fun d S' => R d S' ∧ ∃ k, d = .bl k := by
  intro x y S R h
  cases h with
  | lst p ps hx hy h1 h2 h => exact .lst p ps hx hy h1 h2 ⟨h, _, rfl⟩
  | tup p ps hx hy h1 h2 h => exact .tup p ps hx hy h1 h2 ⟨h, _, rfl⟩
  | sign c t hx hy h => exact .sign c t hx hy ⟨h, _, rfl⟩
  | dic n t ep kvs hy hd hk h => exact .dic n t ep kvs hy hd hk ⟨h, _, rfl⟩
theorem de_in (hr : Room k X.A) (ha : PE X a (dE X.K W ta)) (hb : PE X b (dE X.K W tb)) (hm : behindInMarks .In b = false := by with_unfolding_all rfl) (hw : X.w = PWd.w := by rfl) : PE X (.Compare a [.In] [b] pos) (dE X.K W (e2 (inD true) ta tb)) := de_cmp (op_inA hr hw) (br_in true) ha hb hm
theorem de_notIn (hr : Room k X.A) (ha : PE X a (dE X.K W ta)) (hb : PE X b (dE X.K W tb)) (hm : behindInMarks .NotIn b = false := by with_unfolding_all rfl) (hw : X.w = PWd.w := by rfl) : PE X (.Compare a [.NotIn] [b] pos) (dE X.K W (e2 (inD false) ta tb)) := de_cmp (op_notInA hr hw) (br_in false) ha hb hm
theorem dt_in (hr : Room k X.A) (ha : PE X a (dE X.K W ta)) (hb : PE X b (dE X.K W tb)) (hm : behindInMarks .In b = false := by with_unfolding_all rfl) (hw : X.w = PWd.w := by rfl) : PT X (.Compare a [.In] [b] pos) (dT X.K W (tTru (e2 (inD true) ta tb))) := dt_cmp (op_inA hr hw) (br_in true) (bl_in true) ha hb hm
theorem dt_notIn (hr : Room k X.A) (ha : PE X a (dE X.K W ta)) (hb : PE X b (dE X.K W tb)) (hm : behindInMarks .NotIn b = false := by with_unfolding_all rfl) (hw : X.w = PWd.w := by rfl) : PT X (.Compare a [.NotIn] [b] pos) (dT X.K W (tTru (e2 (inD false) ta tb))) := dt_cmp (op_notInA hr hw) (br_in false) (bl_in false) ha hb hm
end
end DL
namespace DL
open PySem PySem.Spec PyProof.Rows L2
variable [PWd]

/-! ### a op b op' c -/
def eChain (f f' : OD) (ta tb tc : TD) : TD := fun Rx ρ S R => ta Rx ρ S fun x S1 => tb Rx ρ S1 fun y S2 => f x y S2 fun d S3 => match d with
  | .bl k => ift k (tc Rx ρ S3 fun z S4 => f' y z S4 R) (R (.bl false) S3)
  | _ => False
section
variable {X : Cx} {W : WX} {a b c : Expr} {ta tb tc : TD} {pos : Pos} {k : Nat}
theorem chain_in {r r' : R2} {f f' : OD} (br : Br2 X.K r f) (br' : Br2 X.K r' f') {σ : L2.St} {H : Hp} {Q : VK} (h : dE X.K W (eChain f f' ta tb tc) σ H Q) : tChain r r' (dE X.K W ta) (dE X.K W tb) (dE X.K W tc) σ H Q := by
  obtain ⟨ρ, μ, S, R, Rx, at_, h, ok, ox⟩ := h
  refine ⟨ρ, μ, S, _, Rx, at_, h, fun x S1 vx μ1 H1 h1 e1 s1 r1 => ?_, ox⟩
  refine ⟨ρ, μ1, S1, _, Rx, ⟨at_.env.mono e1, s1⟩, h1, fun y S2 vy μ2 H2 h2 e2 s2 r2 => ?_, ox.ext e1⟩
  refine br x y S2 _ vx vy μ2 H2 _ s2 (r1.mono e2) r2 h2 fun d S3 v3 μ3 H3 h3 e3 s3 r3 => ?_
  have e := (e1.trans e2).trans e3
  try dsimp only at h3
  split at h3
  · rename_i k
    cases r3
    refine ⟨k, rfl, ?_⟩
    cases k with
    | false => exact ok _ _ _ _ _ (ift_f h3) e s3 (.bl _)
    | true => exact ⟨ρ, μ3, S3, _, Rx, ⟨at_.env.mono e, s3⟩, ift_t h3, fun z S4 vz μ4 H4 h4 e4 s4 r4 => br' y z S4 R vy vz μ4 H4 Q s4 (r2.mono (e3.trans e4)) r4 h4 (ok.ext (e.trans e4)), ox.ext e⟩
  · exact h3.elim
theorem de_chain {op op' : CmpOp} {r r' : R2} {f f' : OD} (ho : OpR X (compareOp op) r) (ho' : OpR X (compareOp op') r') (br : Br2 X.K r f) (br' : Br2 X.K r' f') (ha : PE X a (dE X.K W ta)) (hb : PE X b (dE X.K W tb)) (hc : PE X c (dE X.K W tc))
    (hm : lastMarks [op, op'] [b, c] = false := by with_unfolding_all rfl) : PE X (.Compare a [op, op'] [b, c] pos) (dE X.K W (eChain f f' ta tb tc)) :=
  (pe_chain ho ho' ha hb hc hm).imp fun _ _ _ h => chain_in br br' h
theorem dt_chain {op op' : CmpOp} {r r' : R2} {f f' : OD} (ho : OpR X (compareOp op) r) (ho' : OpR X (compareOp op') r') (br : Br2 X.K r f) (br' : Br2 X.K r' f') (hf : ∀ x y S R, f' x y S R → f' x y S fun d S' => R d S' ∧ ∃ k, d = .bl k)
    (ha : PE X a (dE X.K W ta)) (hb : PE X b (dE X.K W tb)) (hc : PE X c (dE X.K W tc))
    (hm : lastMarks [op, op'] [b, c] = false := by with_unfolding_all rfl) : PT X (.Compare a [op, op'] [b, c] pos) (dT X.K W (tTru (eChain f f' ta tb tc))) := by
  refine (pt_chain ho ho' ha hb hc hm).imp fun σ H Q h => ?_
  obtain ⟨ρ, μ, S, R, Rx, at_, h, ok, ox⟩ := h
  show tChain r r' (dE X.K W ta) (dE X.K W tb) (dE X.K W tc) σ H fun x H' => ∃ k, x = .bl k ∧ Q k H'
  refine ⟨ρ, μ, S, _, Rx, at_, h, fun x S1 vx μ1 H1 h1 e1 s1 r1 => ?_, ox⟩
  refine ⟨ρ, μ1, S1, _, Rx, ⟨at_.env.mono e1, s1⟩, h1, fun y S2 vy μ2 H2 h2 e2 s2 r2 => ?_, ox.ext e1⟩
  refine br x y S2 _ vx vy μ2 H2 _ s2 (r1.mono e2) r2 h2 fun d S3 v3 μ3 H3 h3 e3 s3 r3 => ?_
  have e := (e1.trans e2).trans e3
  try dsimp only at h3
  split at h3
  · rename_i k
    cases r3
    refine ⟨k, rfl, ?_⟩
    cases k with
    | false => exact ⟨_, rfl, ok _ _ _ _ (ift_f h3) e s3⟩
    | true =>
      refine ⟨ρ, μ3, S3, _, Rx, ⟨at_.env.mono e, s3⟩, ift_t h3, fun z S4 vz μ4 H4 h4 e4 s4 r4 => ?_, ox.ext e⟩
      refine br' y z S4 _ vy vz μ4 H4 _ s4 (r2.mono (e3.trans e4)) r4 (hf _ _ _ _ h4) fun d S5 v5 μ5 H5 h5 e5 s5 r5 => ?_
      obtain ⟨h5, k5, rfl⟩ := h5
      cases r5
      exact ⟨_, rfl, ok _ _ _ _ h5 (e.trans (e4.trans e5)) s5⟩
  · exact h3.elim
end
end DL
namespace DL
open PySem PySem.Spec PyProof.Rows L2
variable [PWd]

/-! ### sorted(xs), xs a list of data that are alike -/
abbrev leP (x y : D) : Bool := PySem.W.dataLe false toP x y
structure SortOk (xs : List D) : Prop where
  pl : Pls xs
  al : PySem.W.AllAlike (xs.map toP)
  so : PySem.W.Sortable (xs.map toP)
  dp : ∀ x ∈ xs, (toP x).depth ≤ 64
  ln : xs.length ≤ sizeLine
def rSortP (K : PySem.W.Frag) : List V → Hp → VK → Prop := fun vs H Q => ∃ (xs : List D) (a : Addr) (cs : List (D × V)), vs = [.ref a] ∧ cs.map (·.1) = xs ∧ SqL K H a (cs.map (·.2)) ∧ (∀ c ∈ cs, Dp K H c.2 (toP c.1)) ∧ SortOk xs ∧
  ∀ p, H p = none → Q (.ref p) (upd H p (.lst ((cs.mergeSort (PySem.W.dataLe false fun c => toP c.1)).map (·.2))))
theorem call_sortP {X : Cx} {k : Nat} (hr : Room k X.A) : CallR X (.builtin "sorted") (rSortP X.K) := by
  intro pins s σ H vs us Q I r h
  obtain ⟨xs, a, cs, rfl, hx, hs, hd, so, q⟩ := h
  obtain ⟨its, rv, hl, _⟩ := I.list hs
  rw [Vals.ref1 r]
  have e0 : cs.map (fun c => toP c.1) = xs.map toP := by rw [← hx, List.map_map]; rfl
  have hlen : cs.length = xs.length := by rw [← hx, List.length_map]
  have go : ∀ (cs : List (D × V)) (its : List Value), Vals (cs.map (·.2)) its → (∀ c ∈ cs, Dp X.K H c.2 (toP c.1)) → PySem.W.EachIs (fun v (c : D × V) => RelV c.2 v) its cs ∧ PySem.W.EachIs (fun v (c : D × V) => ∃ as, Reads s.heap v (toP c.1) as) its cs := by
    intro cs
    induction cs with
    | nil => intro its rv _; cases rv; exact ⟨.nil, .nil⟩
    | cons c cs ih =>
      intro its rv hd
      cases rv with
      | cons r1 r2 =>
        obtain ⟨i1, i2⟩ := ih _ r2 fun c hc => hd c (by simp [hc])
        exact ⟨.cons r1 i1, .cons (Dp.reads I _ _ _ (hd c (by simp)) r1) i2⟩
  obtain ⟨e1, e2⟩ := go cs its rv hd
  refine PySem.W.sorted_data (β := D × V) (enc := fun c => toP c.1) (bs := cs) (R := fun v c => RelV c.2 v) hl.isList e1 e2 (by rw [e0]; exact so.al) (by rw [e0]; exact so.so) (by rw [hlen]; exact so.ln) (fun c hc => ?_) fun out ho hE => ?_
  · have h1 := so.dp c.1 (by rw [← hx]; exact List.mem_map.mpr ⟨c, hc, rfl⟩)
    have h2 := hr.un
    omega
  · obtain ⟨ep, he'⟩ := PyProof.Rows.sortedAll_at s.heap its out.toArray
    have rv' : Vals ((cs.mergeSort (PySem.W.dataLe false fun c => toP c.1)).map (·.2)) out := by
      clear ho he'
      generalize cs.mergeSort (PySem.W.dataLe false fun c => toP c.1) = ds at hE ⊢
      induction hE with
      | nil => exact .nil
      | cons r _ ih => exact .cons r ih
    have hlen' : ((cs.mergeSort (PySem.W.dataLe false fun c => toP c.1)).map (·.2)).length ≤ sizeLine := by rw [List.length_map, List.length_mergeSort, hlen]; exact so.ln
    exact ⟨.ref _, upd H (s.heap.objs.size + 1) (.lst ((cs.mergeSort (PySem.W.dataLe false fun c => toP c.1)).map (·.2))), I.laid (t' := s.toks) (fun _ _ => PyProof.Rows.sortedAll_old) (Nat.le_succ _) ⟨hlen', out, ep, rv', he'⟩, rfl, q _ (I.hok.fresh (Nat.le_succ _))⟩
def sortedD : OC := fun xs S R => match xs with
  | [.ref n] => lstAt n S fun xs => SortOk xs ∧ R (.ref S.length) (S ++ [.lst (xs.mergeSort leP)])
  | _ => False
theorem reps_zip {K : PySem.W.Frag} {H : Hp} {μ : List Addr} : ∀ {xs : List D} {vs : List V}, Reps K H μ xs vs → (xs.zip vs).map (·.1) = xs ∧ (xs.zip vs).map (·.2) = vs ∧ ∀ c ∈ xs.zip vs, Rep K H μ c.1 c.2
  | [], _, .nil => ⟨rfl, rfl, by simp⟩
  | x :: xs, v :: vs, .cons r q => by
    obtain ⟨h1, h2, h3⟩ := reps_zip q
    refine ⟨by simp [h1], by simp [h2], fun c hc => ?_⟩
    rw [List.zip_cons_cons] at hc
    rcases List.mem_cons.mp hc with rfl | hc
    · exact r
    · exact h3 c hc
theorem reps_unzip {K : PySem.W.Frag} {H : Hp} {μ : List Addr} : ∀ {cs : List (D × V)}, (∀ c ∈ cs, Rep K H μ c.1 c.2) → Reps K H μ (cs.map (·.1)) (cs.map (·.2))
  | [], _ => .nil
  | c :: cs, h => .cons (h c (by simp)) (reps_unzip fun d hd => h d (by simp [hd]))
theorem pls_mem : ∀ {xs : List D} {x : D}, Pls xs → x ∈ xs → Pl x
  | y :: r, x, h, hx => by
    obtain ⟨h1, h2⟩ := pls_cons.mp h
    rcases List.mem_cons.mp hx with rfl | hx
    · exact h1
    · exact pls_mem h2 hx
theorem br_sort {X : Cx} : BrC X.K (rSortP X.K) sortedD := by
  intro xs S R vs μ H Q s r h ok
  unfold sortedD at h
  split at h
  · cases r with | cons r1 r2 =>
    cases r2
    cases r1 with | ref g =>
    obtain ⟨xs, e, so, h⟩ := lst_inv h
    obtain ⟨vs, hv, q⟩ := s.lstR g e
    obtain ⟨h1, h2, h3⟩ := reps_zip q
    refine ⟨xs, _, xs.zip vs, rfl, h1, by rw [h2]; exact hv, fun c hc => ?_, so, fun p hp => ?_⟩
    · exact rep_dp (h3 c hc) (pls_mem so.pl (by rw [← h1]; exact List.mem_map.mpr ⟨c, hc, rfl⟩))
    · have e1 : ((xs.zip vs).mergeSort (PySem.W.dataLe false fun c => toP c.1)).map (·.1) = xs.mergeSort leP := by
        rw [PySem.W.sort_maps (r := PySem.W.dataLe false fun c : D × V => toP c.1) (s := leP) (·.1) (fun a _ b _ => rfl), h1]
      have q' : Reps X.K H μ (xs.mergeSort leP) (((xs.zip vs).mergeSort (PySem.W.dataLe false fun c => toP c.1)).map (·.2)) := by
        rw [← e1]
        exact reps_unzip fun c hc => h3 c ((List.mergeSort_perm _ _).mem_iff.mp hc)
      obtain ⟨e', s', r'⟩ := s.newLst hp q'
      exact ok _ _ _ _ _ h e' s' r'
  · exact h.elim
end DL
namespace DL
open PySem PySem.Spec PyProof.Rows L2
variable [PWd]

/-! ### instances: fields, making -/
inductive fldAt (cls : List Str) (n : Nat) (f : Str) (S : Sto) (k : D → Prop) : Prop
  | mk (c : Str) (fs : List (Str × D)) (d : D) (h : S[n]? = some (.ins c fs)) (hc : c ∈ cls) (hl : fs.lookup f = some d) (hk : k d)
def eFld (cls : List Str) (t : TD) (f : Str) : TD := fun Rx ρ S R => t Rx ρ S fun o S1 => match o with
  | .ref n => fldAt cls n f S1 fun d => R d S1
  | _ => False
def putD (f : Str) (d : D) : List (Str × D) → List (Str × D)
  | [] => [(f, d)]
  | (g, x) :: r => if g = f then (g, d) :: r else (g, x) :: putD f d r
inductive putAt (cls : List Str) (n : Nat) (f : Str) (d : D) (S : Sto) (k : Sto → Prop) : Prop
  | mk (c : Str) (fs : List (Str × D)) (h : S[n]? = some (.ins c fs)) (hc : c ∈ cls) (hl : fs.length < 1000) (hk : k (S.set n (.ins c (putD f d fs))))
def sFldD (cls : List Str) (to_ te : TD) (f : Str) : TDS := fun E ρ S => te (E.x ρ) ρ S fun d S1 => to_ (E.x ρ) ρ S1 fun o S2 => match o with
  | .ref n => putAt cls n f d S2 fun S3 => E.nx ρ S3
  | _ => False
/-- what the head tells of the classes that a field is asked of -/
def ClsOk (K : PySem.W.Frag) (cls : List Str) (f : Str) : Prop := ∀ c ∈ cls, Cls K (He.ga K c) ∧ NoAttr K (He.ga K c) f
section
variable {K : PySem.W.Frag} {H : Hp} {μ : List Addr} {S : Sto}
theorem Sim.ins {n : Nat} {p : Addr} {c : Str} {fs : List (Str × D)} (s : Sim K H μ S) (h : μ[n]? = some p) (e : S[n]? = some (.ins c fs)) : ∃ dx gs, H p = some (.ins (He.ga K c) dx gs) ∧ RepF K H μ fs gs := s.ob n p _ h e
theorem RepF.lookup {f : Str} {d : D} : ∀ {fs : List (Str × D)} {gs : List (Str × V)}, RepF K H μ fs gs → fs.lookup f = some d → ∃ v, gs.lookup f = some v ∧ Rep K H μ d v
  | _, _, .nil, h => by cases h
  | (g, x) :: _, (g', y) :: _, .cons r q, h => by
    obtain ⟨e, r⟩ := r
    cases e
    rw [List.lookup_cons] at h ⊢
    cases hb : f == g with
    | true =>
      rw [hb] at h
      cases h
      exact ⟨y, rfl, r⟩
    | false =>
      rw [hb] at h
      exact RepF.lookup q h
theorem RepF.put {f : Str} {d : D} {v : V} (r : Rep K H μ d v) : ∀ {fs : List (Str × D)} {gs : List (Str × V)}, RepF K H μ fs gs → RepF K H μ (putD f d fs) (putF f v gs)
  | _, _, .nil => .cons ⟨rfl, r⟩ .nil
  | (g, x) :: _, (g', y) :: _, .cons q1 q => by
    obtain ⟨e, q1⟩ := q1
    cases e
    unfold putD putF
    by_cases h : g = f
    · rw [if_pos h, if_pos h]
      exact .cons ⟨rfl, r⟩ q
    · rw [if_neg h, if_neg h]
      exact .cons ⟨rfl, q1⟩ (RepF.put r q)
theorem RepF.len : ∀ {fs : List (Str × D)} {gs : List (Str × V)}, RepF K H μ fs gs → fs.length = gs.length
  | _, _, .nil => rfl
  | _ :: _, _ :: _, .cons _ q => congrArg (· + 1) (RepF.len q)
theorem Sim.newIns {p dx : Addr} {c : Str} (s : Sim K H μ S) (hp : H p = none) (hx : H dx = none) (hne : dx ≠ p) :
    Ext K H μ (upd (upd H dx (.own p)) p (.ins (He.ga K c) dx [])) (μ ++ [p]) ∧ Sim K (upd (upd H dx (.own p)) p (.ins (He.ga K c) dx [])) (μ ++ [p]) (S ++ [.ins c []]) ∧ Rep K (upd (upd H dx (.own p)) p (.ins (He.ga K c) dx [])) (μ ++ [p]) (.ref S.length) (.ref p) := by
  have hp' : (upd H dx (.own p)) p = none := by rw [upd_ne hne.symm]; exact hp
  have s1 : Sim K (upd H dx (.own p)) μ S := s.tup hx
  refine ⟨(Ext.fresh hx fun _ _ h => h).trans (Ext.new hp'), s1.new hp' ⟨dx, [], upd_same, .nil⟩, .ref ?_⟩
  rw [← s.len]
  simp
end
section
variable {X : Cx} {W : WX} {o v : Expr} {to_ te : TD} {pos pos' : Pos}
theorem de_fld {cls : List Str} {f : Str} (hc : ClsOk X.K cls f) (ho : PE X o (dE X.K W to_)) (hb : attributeBase o f X.env (eval o X.env) = eval o X.env := by rfl) : PE X (.Attribute o f pos) (dE X.K W (eFld cls to_ f)) := by
  refine (pe_fld ho hb).imp fun σ H Q ⟨ρ, μ, S, R, Rx, at_, h, ok, ox⟩ => ?_
  refine ⟨ρ, μ, S, _, Rx, at_, h, fun x S1 v μ1 H1 h1 e1 s1 r1 => ?_, ox⟩
  dsimp only at h1
  split at h1
  · cases h1 with | mk c fs d h hcl hl hk =>
    cases r1 with | ref g =>
    obtain ⟨dx, gs, hv, q⟩ := s1.ins g h
    obtain ⟨u, hu, ru⟩ := q.lookup hl
    exact ⟨_, _, dx, gs, u, rfl, hv, (hc c hcl).1, (hc c hcl).2, hu, ok _ _ _ _ _ hk e1 s1 ru⟩
  · exact h1.elim
theorem ds_fld {cls : List Str} {f : Str} (hc : ClsOk X.K cls f) (ho : PE X o (dE X.K W to_)) (hv : PE X v (dE X.K W te)) (hs : swapsWith v (some (.Attribute o f pos')) pos.line X.env = pure false := by rfl) : PS X (.Assign [.Attribute o f pos'] v pos) (dS X.K W (sFldD cls to_ te f)) := by
  refine (ps_fld ho hv hs).imp fun Z σ H ⟨ρ, μ, S, E, at_, h, k⟩ => ?_
  refine ⟨ρ, μ, S, _, _, at_, h, fun d S1 vv μ1 H1 h1 e1 s1 r1 => ?_, k.x at_.env⟩
  refine ⟨ρ, μ1, S1, _, _, ⟨at_.env.mono e1, s1⟩, h1, fun ob S2 vo μ2 H2 h2 e2 s2 r2 => ?_, (k.x at_.env).ext e1⟩
  dsimp only at h2
  split at h2
  · cases h2 with | mk c fs h hcl hl hk =>
    cases r2 with | ref g =>
    obtain ⟨dx, gs, hv', q⟩ := s2.ins g h
    have e3 : Ext X.K H2 μ2 (upd H2 _ (.ins (He.ga X.K c) dx (putF f vv gs))) μ2 := Ext.writeAt s2 g h rfl
    have s3 := s2.write (o := .ins (He.ga X.K c) dx (putF f vv gs)) (ob' := .ins c (putD f d fs)) g h rfl rfl ⟨dx, putF f vv gs, upd_same, (RepF.put (r1.mono e2) q).mono e3⟩
    exact ⟨_, _, dx, gs, rfl, hv', (hc c hcl).1, (hc c hcl).2, by rw [← q.len]; exact hl, k.nx _ _ _ _ _ hk ((e1.trans e2).trans e3) ⟨at_.env.mono ((e1.trans e2).trans e3), s3⟩⟩
  · exact h2.elim
/-- Class(args): a new instance, then its __init__ -/
def eMake (c : Str) (sp : DSp) (t : TDA) : TD := fun Rx ρ S R => t Rx ρ S fun xs S1 => Cal sp (.ref S1.length :: xs) (S1 ++ [.ins c []]) (fun d S2 => d = .non ∧ R (.ref S1.length) S2) noX
/-- the __init__ of a class, as a def that keeps its reading -/
structure MakOk (P : Program) (w : World) (K : PySem.W.Frag) (mg : Str → Option Value) (base : Heap) (x : Str) (k : Nat) (ps : List Str) (n : Nat) (sp : DSp) : Prop where
  ex : ∃ f fd, Mk K (He.ga K x) f ∧ FnOk P w K mg base (L2.CX P w) k f fd ps (dSp K n sp) ∧ L2.Binds K fd ps []
  gm : mg x = some (.ref (He.ga K x))
theorem de_make {c : Str} {a : Expr} {es : List Expr} {tr : TDA} {k n : Nat} {ps : List Str} {sp : DSp} {p : Pos} (G : MakOk X.prog X.w X.K X.mg X.base c k ps (n + 1) sp) (hr : Room (k + 1) X.A) (tk : Takes X W) (ha : PA X (a :: es) (dA X.K W n tr)) (hg : Gl X c := by rfl) (hdb : (c == ("__debug__" : Str)) = false := by decide)
    (he : starEach (a :: es) X.env = (false, eval a X.env) :: starEach es X.env := by rfl) (hpl : (backTo pos (starEach es X.env)).any (·.1) = false := by rfl) : PE X (.Call (.Name c p) (a :: es) [] pos) (dE X.K W (eMake c sp tr)) := by
  obtain ⟨f, fd, M, F, hb⟩ := G.ex
  refine (pe_make (E := fun _ _ _ => False) M F hr hg G.gm hb .nil passL ha hdb he hpl).imp fun σ H Q ⟨ρ, μ, S, R, Rx, at_, h, ok, ox⟩ => ?_
  refine ⟨ρ, μ, S, _, Rx, at_, h, fun xs S1 vs μ1 H1 l1 h1 e1 s1 r1 x dx hx hdx hne => ?_, ox⟩
  obtain ⟨e2, s2, r2⟩ := s1.newIns (c := c) hx hdx hne
  have rr : Reps X.K (upd (upd H1 dx (.own x)) x (.ins (He.ga X.K c) dx [])) (μ1 ++ [x]) (.ref S1.length :: xs) (.ref x :: (vs ++ [])) := by
    rw [List.append_nil]
    exact .cons r2 (r1.mono e2)
  refine ⟨_, _, _, _, noX, s2, rr, by rw [List.length_cons, l1], h1.out, fun d S' v μ' H' hq e3 s3 r3 => ?_, fun _ _ _ _ _ _ h => h.elim⟩
  obtain ⟨rfl, hq⟩ := hq
  cases r3
  exact ⟨rfl, ok _ _ _ _ _ hq ((e1.trans e2).trans e3) s3 (r2.mono e3)⟩
end
end DL
namespace DL
open PySem PySem.Spec PyProof.Rows L2
variable [PWd]

/-! ### isinstance where instances of own classes may come -/
inductive refAt (cls : List Str) (n : Nat) (S : Sto) (k : Sum Nat Str → Prop) : Prop
  | lst (xs : List D) (h : S[n]? = some (.lst xs) ∨ S[n]? = some (.fix xs)) (hk : k (.inl 5))
  | ins (c : Str) (fs : List (Str × D)) (h : S[n]? = some (.ins c fs)) (hc : c ∈ cls) (hk : k (.inr c))
def clsAt (cls : List Str) (d : D) (S : Sto) (k : Sum Nat Str → Prop) : Prop := match d with
  | .non => k (.inl 0)
  | .bl _ => k (.inl 1)
  | .int _ => k (.inl 2)
  | .str _ => k (.inl 3)
  | .tup _ => k (.inl 4)
  | .ref n => refAt cls n S k
  | .fn _ => False
def isK : Sum Nat Str → Sum Nat Str → Bool
  | .inl k, .inl t => isKT k t
  | .inr c, .inr c' => decide (c = c')
  | _, _ => false
def isiG (cls : List Str) (t : Sum Nat Str) : OU := fun x S R => clsAt cls x S fun k => R (.bl (isK k t)) S
def kV_ (K : PySem.W.Frag) : Sum Nat Str → Value
  | .inl k => .type (kName k)
  | .inr c => .ref (He.ga K c)
def tV_ (K : PySem.W.Frag) : Sum Nat Str → Value
  | .inl t => .type (tName t)
  | .inr c => .ref (He.ga K c)
/-- what the head tells of such a question -/
structure IsOk (K : PySem.W.Frag) (cls : List Str) (t : Sum Nat Str) : Prop where
  own : ∀ c ∈ cls, InsK K c ∧ Cls K (He.ga K c) ∧ PySem.W.kitOne K (.ref (He.ga K c)) (tV_ K t) = some (isK (.inr c) t)
  base : ∀ k, k < 6 → PySem.W.kitOne K (.type (kName k)) (tV_ K t) = some (isK (.inl k) t)
theorem cls_of {K : PySem.W.Frag} {H : Hp} {μ : List Addr} {S : Sto} {cls : List Str} {t : Sum Nat Str} {d : D} {v : V} {Z : Sum Nat Str → Prop} (o : IsOk K cls t) (s : Sim K H μ S) (r : Rep K H μ d v) (h : clsAt cls d S Z) :
    ∃ k u, Z k ∧ TyX K H v u ∧ PySem.W.kitOne K u (tV_ K t) = some (isK k t) := by
  unfold clsAt at h
  cases r with
  | non => exact ⟨_, _, h, .base .non, o.base 0 (by decide)⟩
  | bl b => exact ⟨_, _, h, .base (.bl b), o.base 1 (by decide)⟩
  | int i => exact ⟨_, _, h, .base (.int i), o.base 2 (by decide)⟩
  | str x => exact ⟨_, _, h, .base (.str x), o.base 3 (by decide)⟩
  | fn x => exact h.elim
  | tup t' q =>
    refine ⟨_, .type "tuple", h, ?_, o.base 4 (by decide)⟩
    rcases t' with (t' | ⟨o, t'⟩) | ⟨o, its, n, h1, h2, _⟩
    · exact .base (.tup t')
    · exact .fTuple t'
    · exact .kTuple h1 h2
  | ref g =>
    cases h with
    | lst xs e h =>
      refine ⟨_, .type "list", h, ?_, o.base 5 (by decide)⟩
      rcases e with e | e
      · obtain ⟨vs, hv, q⟩ := s.lst g e
        exact .base (.lst hv)
      · obtain ⟨vs, hv, q⟩ := s.fix g e
        rcases hv with ⟨o, hv⟩ | ⟨o, its, n, h1, h2, _⟩
        · exact .base (.frz hv)
        · exact .kList h1 h2
    | ins c fs e hc h =>
      obtain ⟨dx, gs, hv, q⟩ := s.ins g e
      obtain ⟨i, cl, hk⟩ := o.own c hc
      exact ⟨_, _, h, .base (.ins hv cl i.ha i.hn i.ht i.hm), hk⟩
section
variable {X : Cx} {W : WX} {a : Expr} {ta : TD} {pos : Pos} {cls : List Str}
/-- isinstance(e, T), T built in -/
theorem de_isiB {p q : Pos} {xT : Str} (t : Nat) (ok_ : IsOk X.K cls (.inl t)) (hm : X.mg "isinstance" = none) (hmT : X.mg xT = none) (hvT : bootBuiltins xT = some (.type (tName t))) (ha : PE X a (dE X.K W ta))
    (hg : Gl X "isinstance" := by rfl) (hgT : Gl X xT := by rfl) (hnT : xT ≠ "__name__" := by decide) (hdT : (xT == ("__debug__" : Str)) = false := by decide)
    (hs1 : starEach [a, .Name xT q] X.env = (false, eval a X.env) :: starEach [.Name xT q] X.env := by rfl) (hs2 : starEach [.Name xT q] X.env = (false, eval (.Name xT q) X.env) :: starEach [] X.env := by rfl)
    (hpl : (backTo pos (starEach [.Name xT q] X.env)).any (·.1) = false := by rfl) : PE X (.Call (.Name "isinstance" p) [a, .Name xT q] [] pos) (dE X.K W (e1 (isiG cls (.inl t)) ta)) := by
  refine (pe_callB call_isi hg hm PyProof.Rows.boot_isinstance (pa_cons ha (pa_cons (pe_bltn (v := .ty (tName t)) hgT hmT hvT rfl hnT hdT) pa_nil hs2) hs1) (by decide) (by decide) hs1 hpl).imp fun σ H Q ⟨ρ, μ, S, R, Rx, at_, h, ok, ox⟩ => ?_
  refine ⟨ρ, μ, S, _, Rx, at_, h, fun d S' v μ' H' h' e s r => ?_, ox⟩
  obtain ⟨k, u, h', ty, hk⟩ := cls_of ok_ s r h'
  exact ⟨v, .ty (tName t), _, _, _, rfl, .ty _, ty, hk, ok _ _ _ _ _ h' e s (.bl _)⟩
/-- isinstance(e, C), C a class of the program's own -/
theorem de_isiC {p q : Pos} {c : Str} (ok_ : IsOk X.K cls (.inr c)) (hm : X.mg "isinstance" = none) (hmT : X.mg c = some (.ref (He.ga X.K c))) (ha : PE X a (dE X.K W ta))
    (hg : Gl X "isinstance" := by rfl) (hgT : Gl X c := by rfl) (hdT : (c == ("__debug__" : Str)) = false := by decide)
    (hs1 : starEach [a, .Name c q] X.env = (false, eval a X.env) :: starEach [.Name c q] X.env := by rfl) (hs2 : starEach [.Name c q] X.env = (false, eval (.Name c q) X.env) :: starEach [] X.env := by rfl)
    (hpl : (backTo pos (starEach [.Name c q] X.env)).any (·.1) = false := by rfl) : PE X (.Call (.Name "isinstance" p) [a, .Name c q] [] pos) (dE X.K W (e1 (isiG cls (.inr c)) ta)) := by
  refine (pe_callB call_isi hg hm PyProof.Rows.boot_isinstance (pa_cons ha (pa_cons (pe_glob (v := .ref (He.ga X.K c)) hgT hmT rfl hdT) pa_nil hs2) hs1) (by decide) (by decide) hs1 hpl).imp fun σ H Q ⟨ρ, μ, S, R, Rx, at_, h, ok, ox⟩ => ?_
  refine ⟨ρ, μ, S, _, Rx, at_, h, fun d S' v μ' H' h' e s r => ?_, ox⟩
  obtain ⟨k, u, h', ty, hk⟩ := cls_of ok_ s r h'
  exact ⟨v, .ref (He.ga X.K c), _, _, _, rfl, .own _, ty, hk, ok _ _ _ _ _ h' e s (.bl _)⟩
end
end DL
namespace DL
open PySem PySem.Spec PyProof.Rows L2
variable [PWd]
section
variable {fa : List He.Fa} {fn : List He.DefD} {cs : List CS} {K : PySem.W.Frag} {mg : Str → Option Value}
/-- a class's __init__ of the text by its body's reading -/
theorem Tx.makD {P : Program} {w : World} {base : Heap} (T : Tx fa fn cs K mg) {c q : Str} {st : Stmt} {k n m : Nat} {N ps : List Str} {t : TDS} (gm : mg c = some (.ref (He.ga K c))) (mk : Mk K (He.ga K c) (He.ma K (He.ga K c) "__init__"))
    (i : Nat) (hi : fn[i]? = some ⟨(c, some "__init__"), "__init__", q, defArgs st, defBody st, defScope st, [], []⟩)
    (sc : FnScope N ps (defScope st)) (hn : ps.length = n) (hm : N.length = m)
    (hbind : ∀ (kV doc pm : Value) (an : Option Addr) (cdv ct : Value) (us : List Value), us.length = ps.length → bindArgs (PySem.W.fnOf "__init__" q (defArgs st) (defBody st) (defScope st) .none kV doc pm an cdv ct) ⟨us, []⟩ = pure (ps.zip us))
    (hb : ∀ (cdv : Value) (A : Around) (outer : List Env) (s : Shared) (H : Hp) (E : XK), Room k (A.deeper (envOfC q (defScope st) s.heap.objs.size (He.ma K (He.ga K c) "__init__") cdv)) →
      PSs (cxOf (L2.CX P w) P w K mg base N q (defScope st) (He.ma K (He.ga K c) "__init__") cdv A outer s H E) (defBody st) (dS K (fun cls d _ H' => E cls d H') t)) : MakOk P w K mg base c (k + 1) ps n (wOf m t) := by
  obtain ⟨_, X, G, cc⟩ := T.ex
  obtain ⟨fd, F⟩ := cc.d.def_ i hi
  have F' : FunD K "__init__" q (defArgs st) (defBody st) (defScope st) [] [] (He.ma K (He.ga K c) "__init__") fd := F
  exact ⟨⟨_, fd, mk, FunD.okD F' sc hn hm hb, F'.bindsN hbind⟩, gm⟩
/-- isinstance's facts of a built-in class -/
theorem isOk_b {cls : List Str} {t : Nat} (h1 : 1 ≤ t) (h6 : t < 7) (h : ∀ c ∈ cls, InsK K c ∧ Cls K (He.ga K c) ∧ PySem.W.kitOne K (.ref (He.ga K c)) (.type (tName t)) = some false) : IsOk K cls (.inl t) :=
  ⟨fun c hc => ⟨(h c hc).1, (h c hc).2.1, (h c hc).2.2⟩, fun k hk => kit_ty (kit_is k hk t h1 h6)⟩
/-- .. of an own one -/
theorem isOk_c {cls : List Str} {c' : Str} (h : ∀ c ∈ cls, InsK K c ∧ Cls K (He.ga K c) ∧ PySem.W.kitOne K (.ref (He.ga K c)) (.ref (He.ga K c')) = some (decide (c = c')))
    (h0 : PySem.W.kitOne K (.type "NoneType") (.ref (He.ga K c')) = some false) (h1 : PySem.W.kitOne K (.type "bool") (.ref (He.ga K c')) = some false) (h2 : PySem.W.kitOne K (.type "int") (.ref (He.ga K c')) = some false)
    (h3 : PySem.W.kitOne K (.type "str") (.ref (He.ga K c')) = some false) (h4 : PySem.W.kitOne K (.type "tuple") (.ref (He.ga K c')) = some false) (h5 : PySem.W.kitOne K (.type "list") (.ref (He.ga K c')) = some false) : IsOk K cls (.inr c') := by
  refine ⟨fun c hc => ⟨(h c hc).1, (h c hc).2.1, (h c hc).2.2⟩, fun k hk => ?_⟩
  have hk' : k = 0 ∨ k = 1 ∨ k = 2 ∨ k = 3 ∨ k = 4 ∨ k = 5 := by omega
  rcases hk' with rfl | rfl | rfl | rfl | rfl | rfl
  · exact h0
  · exact h1
  · exact h2
  · exact h3
  · exact h4
  · exact h5
theorem clsOk_nil {f : Str} : ClsOk K [] f := fun c hc => by cases hc
theorem clsOk_cons {c f : Str} {r : List Str} (h1 : Cls K (He.ga K c)) (h2 : NoAttr K (He.ga K c) f) (h : ClsOk K r f) : ClsOk K (c :: r) f := fun d hd => by
  rcases List.mem_cons.mp hd with rfl | hd
  · exact ⟨h1, h2⟩
  · exact h d hd
theorem all_nil {p : Str → Prop} : ∀ c ∈ ([] : List Str), p c := fun c hc => by cases hc
theorem all_cons {p : Str → Prop} {c : Str} {r : List Str} (h1 : p c) (h : ∀ c ∈ r, p c) : ∀ d ∈ c :: r, p d := fun d hd => by
  rcases List.mem_cons.mp hd with rfl | hd
  · exact h1
  · exact h d hd
end
end DL
namespace DL
open PySem PySem.Spec PyProof.Rows L2
variable [PWd]

/-! ### sep.join(texts), list(range(n)) -/
theorem reps_strs {K : PySem.W.Frag} {H : Hp} {μ : List Addr} : ∀ {ns : List Str} {vs : List V}, Reps K H μ (ns.map D.str) vs → vs = ns.map V.str
  | [], _, .nil => rfl
  | n :: ns, _, .cons (.str _) t => by rw [reps_strs (ns := ns) t]; rfl
def joinAt (a : Str) (y : D) (S : Sto) (R : RD) : Prop := match y with
  | .ref n => lstAt n S fun xs => ∃ ys : List Str, xs = ys.map D.str ∧ (ys.map (·.length)).sum + ys.length * a.length ≤ 16777216 ∧ R (.str (Txt.join a ys)) S
  | .tup xs => ∃ ys : List Str, xs = ys.map D.str ∧ (ys.map (·.length)).sum + ys.length * a.length ≤ 16777216 ∧ R (.str (Txt.join a ys)) S
  | _ => False
def eJoin (to_ te : TD) : TD := fun Rx ρ S R => to_ Rx ρ S fun o S1 => match o with
  | .str a => te Rx ρ S1 fun y S2 => joinAt a y S2 R
  | _ => False
def eListRg (te : TD) : TD := fun Rx ρ S R => te Rx ρ S fun d S1 => match d with
  | .int n => (0 ≤ n ∧ n ≤ 16777216) ∧ R (.ref S1.length) (S1 ++ [.lst (rangeD 0 n.toNat)])
  | _ => False
section
variable {X : Cx} {W : WX} {o e : Expr} {to_ te : TD} {pos apos : Pos}
theorem de_join (ho : PE X o (dE X.K W to_)) (he : PE X e (dE X.K W te)) (hs : starEach [e] X.env = [(false, eval e X.env)] := by rfl) (hbase : attributeBase o "join" X.env (eval o X.env) = eval o X.env := by rfl) (hline : (apos.endLine == pos.line) = true := by rfl) :
    PE X (.Call (.Attribute o "join" apos) [e] [] pos) (dE X.K W (eJoin to_ te)) := by
  refine (pe_join ho he hs hbase hline).imp fun σ H Q ⟨ρ, μ, S, R, Rx, at_, h, ok, ox⟩ => ?_
  refine ⟨ρ, μ, S, _, Rx, at_, h, fun x S1 v μ1 H1 h1 e1 s1 r1 => ?_, ox⟩
  dsimp only at h1
  split at h1
  · rename_i a
    cases r1
    refine ⟨⟨a, rfl⟩, ρ, μ1, S1, _, Rx, ⟨at_.env.mono e1, s1⟩, h1, fun y S2 w μ2 H2 h2 e2 s2 r2 => ?_, ox.ext e1⟩
    replace h2 : joinAt a y S2 R := h2
    unfold joinAt at h2
    split at h2
    · cases r2 with | ref g =>
      obtain ⟨xs, hx, ys, rfl, hz, h2⟩ := lst_inv h2
      obtain ⟨vs, hv, q⟩ := s2.lstR g hx
      cases reps_strs q
      exact ⟨a, _, ys, rfl, rfl, .inl hv, hz, ok _ _ _ _ _ h2 (e1.trans e2) s2 (.str _)⟩
    · cases r2 with | tup t q =>
      obtain ⟨ys, rfl, hz, h2⟩ := h2
      cases reps_strs q
      exact ⟨a, _, ys, rfl, rfl, .inr t, hz, ok _ _ _ _ _ h2 (e1.trans e2) s2 (.str _)⟩
    · exact h2.elim
  · exact h1.elim
theorem de_listRg {p p2 q : Pos} (hm : X.mg "list" = none) (hm2 : X.mg "range" = none) (ha : PE X e (dE X.K W te)) (hc : X.calm = true := by rfl) (hg : Gl X "list" := by rfl) (hg2 : Gl X "range" := by rfl)
    (na : starEach [e] X.env = (false, eval e X.env) :: starEach [] X.env := by rfl) (na2 : starEach [.Call (.Name "range" p2) [e] [] q] X.env = (false, eval (.Call (.Name "range" p2) [e] [] q) X.env) :: starEach [] X.env := by rfl) :
    PE X (.Call (.Name "list" p) [.Call (.Name "range" p2) [e] [] q] [] pos) (dE X.K W (eListRg te)) := by
  refine (pe_listRg hc hg hm (prg_1 hg2 hm2 ha na) na2).imp fun σ H Q ⟨ρ, μ, S, R, Rx, at_, h, ok, ox⟩ => ?_
  refine ⟨ρ, μ, S, _, Rx, at_, h, fun x S1 v μ1 H1 h1 e1 s1 r1 => ?_, ox⟩
  dsimp only at h1
  split at h1
  · rename_i n
    cases r1
    obtain ⟨⟨h0, hn⟩, h1⟩ := h1
    refine ⟨n, rfl, RgOk.of_le (Int.le_refl 0) hn (by decide) h0, fun p hp => ?_⟩
    have q : Reps X.K H1 μ1 (rangeD 0 n.toNat) (rgV 0 n) := by
      unfold rangeD rgV
      rw [Int.sub_zero]
      generalize List.range n.toNat = l
      induction l with
      | nil => exact .nil
      | cons i l ih => exact .cons (.int _) ih
    obtain ⟨e', s', r'⟩ := s1.newLst hp q
    exact ok _ _ _ _ _ h1 (e1.trans e') s' r'
  · exact h1.elim
end
end DL
namespace DLX
open PySem PySem.Spec PyProof.Rows L2
section
variable {X : Cx} {pins : List (Addr × Obj)} {σ : L2.St} {H : Hp} {s : Shared} {a C fI dx : Addr} {f : Str} {y : V} {u : Value} {fs : List (Str × V)} {Q : Unit → Shared → Prop} {E : Value → Shared → Prop} {A : Around}
/-- the first field of an exception that is being made -/
theorem new_field (T : ExcK X.K C fI) (I : Inv X pins σ H s) (e : H a = some (exo a C none)) (hno : PySem.W.findIn X.K (.ref C) f = some none) (ry : RelV y u)
    (h : ∀ dx s', H dx = none → dx ≠ a → Inv X pins σ (upd (upd H dx (exd dx [(f, y)])) a (exo a C (some dx))) s' → Q () s') : wpAny (model X.prog X.w) A (setAttr (.ref a) f u) Q E s := by
  obtain ⟨t1, ho⟩ := exo_at I.hok e
  obtain ⟨hp, g, d, t, os⟩ := s
  refine PySem.W.set_plain I.kIn (ox := PySem.W.excObj C t1 none .none) (od := none) ⟨ho, rfl, rfl, trivial⟩ T.sa (set_first T I.kIn ho hno fun h' tk' dx k dn dne hx hn => ?_)
  have free : H dx = none := I.hok.fresh dn
  have far : ∀ {b : Addr} {o : Obj}, hp.get? b = some o → b ≠ dx := fun z => Nat.ne_of_lt (Nat.lt_of_lt_of_le (Heap.lt_size z) dn)
  have off : ∀ {b : Addr}, H b = none → b ≠ a := fun n z => by rw [z, e] at n; cases n
  -- what stood under another name stands so still
  have same : ∀ {b : Addr} {o : HO}, H b = some o → o ≠ exo a C none → (upd (upd H dx (exd dx [(f, y)])) a (exo a C (some dx))) b = some o := fun {b o} z n => by
    rw [upd_ne (fun q => n (by rw [q, e] at z; exact (Option.some.inj z).symm)), upd_ne (ne_of_none z free)]
    exact z
  have U : Un X.fs [] H (upd (upd H dx (exd dx [(f, y)])) a (exo a C (some dx))) hp h' :=
    ⟨fun b o z n _ _ => k b o (off n) z, fun b o z n _ _ => ⟨_, k b o (off n) z⟩, fun b o z n _ => by rw [upd_ne (off n), upd_ne (far z)]; exact n,
      fun b o z _ => by
        rcases Classical.em (b = a) with q | q
        · subst q
          exact ⟨_, hx⟩
        · exact ⟨o, k b o q z⟩,
      fun b xs z => same z (fun q => exo_tup q.symm), fun b o v z => same z (fun q => exo_frz q.symm), fun b ps z => ⟨#[], by rw [Array.append_empty]; exact same z (fun q => exo_tbl q.symm)⟩⟩
  show Q () _
  refine h dx _ free dne (I.un (t' := tk') U fun b o z => ?_)
  rcases Classical.em (b = a) with q | qa
  · rw [q] at z ⊢
    rw [upd_same] at z
    cases z
    exact exo_ok hx
  · rw [upd_ne qa] at z
    rcases Classical.em (b = dx) with q | qd
    · rw [q] at z ⊢
      rw [upd_same] at z
      cases z
      exact exd_ok hn (relO_put (fs := []) ry fun _ => trivial)
    · rw [upd_ne qd] at z
      refine (I.hok b o z).stay (fun c v hc q => k c v (fun w => ?_) q) (fun c hc => same hc (fun q => exo_own q.symm)) fun c xs hc => same hc fun q => exo_tup q.symm
      rcases hc with hc | hc
      · exact qa (hc.symm.trans w)
      · rw [w, e] at hc
        exact exo_own (Option.some.inj hc)
/-- a further field -/
theorem more_field (T : ExcK X.K C fI) (I : Inv X pins σ H s) (e : H a = some (exo a C (some dx))) (ed : H dx = some (exd dx fs)) (hl : fs.length ≤ 900) (hno : PySem.W.findIn X.K (.ref C) f = some none) (ry : RelV y u)
    (h : ∀ s', Inv X pins σ (upd H dx (exd dx ((f, y) :: fs))) s' → Q () s') : wpAny (model X.prog X.w) A (setAttr (.ref a) f u) Q E s := by
  obtain ⟨t1, ho⟩ := exo_at I.hok e
  obtain ⟨mA, hns, rel⟩ := exd_at I.hok ed
  have hw := within_of rel
  obtain ⟨hp, g, d, t, os⟩ := s
  obtain ⟨oD, _, _, hoD, _⟩ := hns.count hw
  refine PySem.W.set_plain I.kIn (ox := PySem.W.excObj C t1 (some dx) .none) (od := some oD) ⟨ho, rfl, rfl, hoD⟩ T.sa (set_more T I.kIn ho hns hw (by rw [List.length_map]; omega) hno fun h' tk' k hn => ?_)
  obtain ⟨oN, _, _, hN, _⟩ := id hn
  exact h _ (I.write (t' := tk') (x := dx) (e := dx) (o := exd dx ((f, y) :: fs)) (by rw [ed]; trivial) (.inl rfl) k ⟨oN, hN⟩ (exd_ok hn (relO_put ry rel)))
end
/-- self.f = e within the __init__ of such a class -/
def tFld (K : PySem.W.Frag) (C fI : Addr) (f : Str) (to te : TE) : TS := fun D σ H => te σ H fun y H1 => to σ H1 fun x H2 => ∃ a : Addr, x = .ref a ∧
  ((H2 a = some (exo a C none) ∧ ∀ dx, H2 dx = none → dx ≠ a → D.nx σ (upd (upd H2 dx (exd dx [(f, y)])) a (exo a C (some dx)))) ∨
    ∃ (dx : Addr) (fs : List (Str × V)), H2 a = some (exo a C (some dx)) ∧ H2 dx = some (exd dx fs) ∧ fs.length ≤ 900 ∧ D.nx σ (upd H2 dx (exd dx ((f, y) :: fs))))
theorem ps_fldE {X : Cx} {o e : Expr} {to te : TE} {C fI : Addr} {f : Str} {p' pos : Pos} (T : ExcK X.K C fI) (hno : PySem.W.findIn X.K (.ref C) f = some none) (ho : PE X o to) (he : PE X e te) (hs : swapsWith e (some (.Attribute o f p')) pos.line X.env = pure false := by rfl) :
    PS X (.Assign [.Attribute o f p'] e pos) (tFld X.K C fI f to te) := by
  refine ⟨fun pins s σ H D I h => plainObj_wpAny_Assign_Attribute (thn (he.run pins s σ H _ I h) fun v s1 ⟨y, H1, I1, r1, q1⟩ => thn (ho.run pins s1 σ H1 _ I1 q1) fun u s2 ⟨x, H2, I2, r2, a, ex, q⟩ => ?_) hs⟩
  subst ex
  cases (show u = Value.ref a from r2)
  rcases q with ⟨ea, q⟩ | ⟨dx, fs, ea, ed, hl, q⟩
  · exact new_field T I2 ea hno r1 fun dx s' n ne J => ⟨σ, _, J, q dx n ne⟩
  · exact more_field T I2 ea ed hl hno r1 fun s' J => ⟨σ, _, J, q⟩
/-- the promise of such an __init__ that lays each argument into a field -/
def spLay (C : Addr) (fields : List Str) : Sp := fun vs H Q _ => ∃ (a : Addr) (ys : List V), vs = .ref a :: ys ∧ ys.length = fields.length ∧ H a = some (exo a C none) ∧ ∀ d, H d = none → d ≠ a → Q .non (upd (upd H d (exd d (fields.zip ys).reverse)) a (exo a C (some d)))
/-- C(e, ..) -/
def tMkE (C : Addr) (fields : List Str) (ta : TA) : L2.St → Hp → XK → Prop := fun σ H Q => ta σ H fun vs H1 => vs.length = fields.length ∧ vs.length ≤ 1000 ∧ ∀ d, H1 d = none → Q (.ref C) (some d) (upd H1 d (.xd (fields.zip vs).reverse))
theorem pmk_exc {X : Cx} {CX : CXT} {x : Str} {e : Expr} {es : List Expr} {ta : TA} {p pos : Pos} {C fI : Addr} {k : Nat} {fd : FuncData} {ps fields : List Str} (T : ExcK X.K C fI) (F1 : FnOk X.prog X.w X.K X.mg X.base CX k fI fd ps (spLay C fields)) (hr : Room (k + 1) X.A) (hb : Binds X.K fd ps [])
    (hx : Passes CX X (fun _ _ _ => False)) (hg : Gl X x) (hm : X.mg x = some (.ref C)) (ha : PA X (e :: es) ta) (hdb : (x == ("__debug__" : Str)) = false := by decide) (he : starEach (e :: es) X.env = (false, eval e X.env) :: starEach es X.env := by rfl) (hpl : (backTo pos (starEach es X.env)).any (·.1) = false := by rfl) :
    PMk X (.Call (.Name x p) (e :: es) [] pos) (tMkE C fields ta) := by
  intro pins s σ H Q I h
  refine wpAny_Call_Name_kw (ld_glob I hg hm ?_ hdb)
  refine PySem.W.callWith_K (h₀ := X.base) I.ok.mod.kin T.kC (thn (ha.run pos pins s σ H _ I h) fun us s1 ⟨vs, H1, I1, r1, hl, hz, q1⟩ => ⟨I1.kIn, ?_⟩) he hpl
  show wpAny _ _ (call (.ref C) us) _ _ _
  obtain ⟨hp, g, dr, tk, os⟩ := s1
  obtain ⟨nm, N, qn, bs, bm, hdct, sn, sub, ab, col, dd, k0, k1, k2, k3, k5, hC, hT⟩ := PySem.W.excInit_of I1.kIn T.q
  obtain ⟨oI, hoI, hcI⟩ : ∃ oI, hp.get? fI = some oI ∧ oI.cls = .type "function" := by
    obtain ⟨o, h1, h2⟩ := Option.map_eq_some_iff.mp (show (X.K.lookup fI).map (·.cls) = some (.type "function") from beq_iff_eq.mp T.tI)
    exact ⟨o, I1.kIn _ _ h1, h2⟩
  -- the exception as it stands ahead of its __init__
  have up : hp.objs.size ≤ hp.objs.size + 1 := Nat.le_succ _
  have n1 : H1 (hp.objs.size + 1) = none := I1.hok.fresh up
  have keeps : ∀ b o, hp.get? b = some o → ((hp.push (PySem.W.kdv_tup us)).push (PySem.HandSPX.excO C hp.objs.size)).get? b = some o := fun b o z => Heap.get?_push_of_some _ (Heap.get?_push_of_some _ z)
  have here : ((hp.push (PySem.W.kdv_tup us)).push (PySem.HandSPX.excO C hp.objs.size)).get? (hp.objs.size + 1) = some (PySem.HandSPX.excO C hp.objs.size) := by heap_get
  have I2 : Inv X pins σ (upd H1 (hp.objs.size + 1) (exo (hp.objs.size + 1) C none)) ⟨(hp.push (PySem.W.kdv_tup us)).push (PySem.HandSPX.excO C hp.objs.size), g, dr, tk, os⟩ :=
    I1.laid (t' := tk) (a := hp.objs.size + 1) (o := exo (hp.objs.size + 1) C none) keeps up (exo_ok here)
  have r2 : Vals (V.ref (hp.objs.size + 1) :: vs) (Value.ref (hp.objs.size + 1) :: us) := .cons rfl r1
  have hus : us.length ≤ sizeLine := by
    rw [← Paired.length r1, sizeLine_eq]
    omega
  -- what is wanted of it: the exception is let go, its dict stands
  have hq : spLay C fields (V.ref (hp.objs.size + 1) :: vs) (upd H1 (hp.objs.size + 1) (exo (hp.objs.size + 1) C none))
      (fun v H2 => v = .non ∧ ∃ (d : Addr) (fs : List (Str × V)), H2 (hp.objs.size + 1) = some (exo (hp.objs.size + 1) C (some d)) ∧ H2 d = some (exd d fs) ∧ H1 d = none ∧ Q (.ref C) (some d) (upd (del H2 (hp.objs.size + 1)) d (.xd fs))) (fun _ _ _ => False) := by
    refine ⟨_, vs, rfl, hl, upd_same, fun d hd hne => ⟨rfl, d, _, upd_same, by rw [upd_ne hne, upd_same], by rw [upd_ne hne] at hd; exact hd, ?_⟩⟩
    have hd' : H1 d = none := by rw [upd_ne hne] at hd; exact hd
    have eq : upd (del (upd (upd (upd H1 (hp.objs.size + 1) (exo (hp.objs.size + 1) C none)) d (exd d (fields.zip vs).reverse)) (hp.objs.size + 1) (exo (hp.objs.size + 1) C (some d))) (hp.objs.size + 1)) d (.xd (fields.zip vs).reverse) = upd H1 d (.xd (fields.zip vs).reverse) := by
      funext b
      rcases Classical.em (b = d) with z | z
      · rw [z, upd_same, upd_same]
      · rw [upd_ne z, upd_ne z]
        rcases Classical.em (b = hp.objs.size + 1) with z2 | z2
        · rw [z2, del_same, n1]
        · rw [del_ne z2, upd_ne z2, upd_ne z, upd_ne z2]
    rw [eq]
    exact q1 d hd'
  refine wpAny_call (PySem.HandSPX.call_own F.excBase_Exception hT hC (PySem.W.looks_findIn I1.kIn T.iC) (fun self => PySem.W.exc_bind hoI hcI self) hus
    (codeAny_mono (F1.run _ X.stack _ _ ⟨Value.ref (hp.objs.size + 1) :: us, []⟩ (Value.ref (hp.objs.size + 1) :: us) _ _ (fun _ _ _ => False) (hr.make C us []) (I2.env0.make C us []) ?_ r2 hq) fun r s' z => ?_))
  · have := hb ⟨(hp.push (PySem.W.kdv_tup us)).push (PySem.HandSPX.excO C hp.objs.size), g, dr, tk, os⟩ (Value.ref (hp.objs.size + 1) :: us) I2.kIn (by
      have z := F1.len _ _ _ _ hq
      have z2 := r2.length
      simp only [List.append_nil]
      omega)
    simpa only [List.append_nil] using this
  · cases r with
    | error er => exact hx pins σ _ _ er s' I2 z
    | ok fl =>
      cases fl with
      | ret u =>
        obtain ⟨v, H2, os2, bare2, un2, hok2, rv, ev, d, fs, ea, ed, hd1, q2⟩ := z
        subst ev
        obtain ⟨h2, g2, d2, t2, os'⟩ := s'
        exact ⟨rv, mk_end (raises_own T.exC T.tyC) I1 up keeps un2 hok2 os2 bare2 ea ed hd1 q2⟩
      | next => exact False.elim z
      | brk => exact False.elim z
      | cont => exact False.elim z
end DLX
namespace DLX
open PySem PySem.Spec PyProof.Rows L2
/-! ### try with clauses, each with a name or without -/
abbrev Suite := Addr → Value → Option Addr → TS
/-- what a suite's end means behind the clause's name -/
def offName (i : Nat) (D : Ends) : Ends := ⟨fun σ H => D.nx (σ.set i none) H, D.rt, fun σ H => D.bk (σ.set i none) H, fun σ H => D.ct (σ.set i none) H⟩
def wish (K : PySem.W.Frag) (Wout : WX) (D : Ends) : List (Value × Option Nat × Suite) → WX
  | [] => Wout
  | (c, i, ts) :: r => fun cls d σ H => ∃ b, PySem.W.exmOne K cls c = some b ∧
      (b = true → ∀ a, H a = none → match i with
        | none => ts a cls d D σ H
        | some i => ts a cls d (offName i D) (σ.set i (some (.ref a))) H) ∧
      (b = false → wish K Wout D r cls d σ H)
/-- the clauses keep their readings -/
inductive Cls_ (X : Cx) : List ExceptHandler → List (Value × Option Nat × Suite) → Prop
  | nil : Cls_ X [] []
  | bare {x : Str} {c : Value} {ts : Suite} {b : Stmt} {suite : List Stmt} {np p : Pos} {hds : List ExceptHandler} {l : List (Value × Option Nat × Suite)} (hc : Names X x c)
      (hsu : ∀ (a : Addr) (oe : Obj) (cls : Value) (d : Option Addr) (pn : List (Addr × Obj)), Zc cls d oe → (∃ vs, oe.data = .fields vs) → PSs (X.suite a ((a, oe) :: pn)) (b :: suite) (ts a cls d)) (r : Cls_ X hds l) :
      Cls_ X (.ExceptHandler (some (.Name x np)) none (b :: suite) p :: hds) ((c, none, ts) :: l)
  | named {x n : Str} {i : Nat} {c : Value} {ts : Suite} {b : Stmt} {suite : List Stmt} {np p : Pos} {hds : List ExceptHandler} {l : List (Value × Option Nat × Suite)} (hc : Names X x c) (hi : X.N[i]? = some n) (hl : X.env.kindOf n = some .local)
      (hsu : ∀ (a : Addr) (oe : Obj) (cls : Value) (d : Option Addr) (pn : List (Addr × Obj)), Zc cls d oe → (∃ vs, oe.data = .fields vs) → PSs (X.suite a ((a, oe) :: pn)) (b :: suite) (ts a cls d)) (r : Cls_ X hds l) :
      Cls_ X (.ExceptHandler (some (.Name x np)) (some n) (b :: suite) p :: hds) ((c, some i, ts) :: l)
/-- what becomes of an exception of the body -/
def flies (X : Cx) (hds : List ExceptHandler) (pins : List (Addr × Obj)) (D : Ends) : Value → Shared → Prop := fun e s1 =>
  wpAny (model X.prog X.w) X.A (noteFrame e X.env) (fun _ s2 => wpAny (model X.prog X.w) X.A (setFlight e none) (fun _ s3 => wpAny (model X.prog X.w) X.A (handleBy e X.env hds) (SP X pins D) X.xe s3) X.xe s2) X.xe s1
section
variable {X : Cx} {body : List Stmt} {h₀ : ExceptHandler} {hds : List ExceptHandler} {l : List (Value × Option Nat × Suite)} {pos : Pos} {tb : WX → TS} {Wout : WX}
theorem ps_tryE (hs : X.stack = X.env :: X.outer) (hf : X.env.frame = some X.env.locals) (hN : X.N.Nodup) (tk : Takes X Wout)
    (hb : ∀ (W : WX) (pn : List (Addr × Obj)) (xe : Value → Shared → Prop), Takes (X.tr pn xe) W → PassesOwn (model X.prog X.w) X.A X.env xe → PSs (X.tr pn xe) body (tb W))
    (hh : Cls_ X (h₀ :: hds) l) : PS X (.Try body (h₀ :: hds) [] [] pos) (fun D σ H => tb (wish X.K Wout D l) D σ H) := by
  refine ⟨fun pins s σ H D I h => wpAny_Try_except ?_⟩
  have ok := I.ok
  have frames : X.A.frames = some (X.env :: X.outer) := by rw [ok.frames, hs]
  refine wpAny_mono ((hb (wish X.K Wout D l) (X.pn ++ pins) (flies X (h₀ :: hds) pins D) (fun u s' xx => ?caught) PassesOwn.looking).run [] s σ H D (I.toTry _) h) (fun f s1 hsp => ?calm) (fun e s1 he => he)
  case calm =>
    cases f with
    | next => obtain ⟨σ', H', J, q⟩ := hsp; exact wpAny_execs_nil ⟨σ', H', J.ofTry ok, q⟩
    | brk => obtain ⟨σ', H', J, q⟩ := hsp; exact ⟨σ', H', J.ofTry ok, q⟩
    | cont => obtain ⟨σ', H', J, q⟩ := hsp; exact ⟨σ', H', J.ofTry ok, q⟩
    | ret u => obtain ⟨v, σ', H', J, r, q⟩ := hsp; exact ⟨v, σ', H', J.ofTry ok, r, q⟩
  case caught =>
    obtain ⟨a, B, sI, pins', σ', H', cls, d, rfl, J', nb, up, sky, na, os, ag, w⟩ := xx
    have J : Inv X pins σ' H' sI := J'.ofTry ok
    rw [show (X.tr (X.pn ++ pins) _).stack = X.env :: X.outer from hs] at sky
    show wpAny (model X.prog X.w) X.A (noteFrame (.ref a) X.env) _ _ _
    refine Sky.land Zc.steady frames hf sky fun h3 fl3 up3 => ?_
    have J3 : Inv X pins σ' H' { s' with heap := h3 } := J.landed nb fl3.1 (up.trans up3) os ag
    obtain ⟨oe3, vs3, he3, hz3, hd3⟩ := fl3.there
    -- the exception is no frame's table
    have apart : a ∉ frs (X.env :: X.outer) := fun hm => by
      obtain ⟨_, o, e, no⟩ := fl3.2.2.1.mem hm
      rw [he3] at e
      cases e
      exact no _ hd3
    have nL : a ≠ X.env.locals := fun z => apart (List.mem_filterMap.mpr ⟨X.env, List.mem_cons_self, by rw [hf, z]⟩)
    have nF : a ∉ X.fs := fun hm => let ⟨e, he, q⟩ := List.mem_filterMap.mp hm; apart (List.mem_filterMap.mpr ⟨e, List.mem_cons_of_mem _ he, q⟩)
    have S3 := J3.suite he3 hd3 na nL nF
    have LT : PySem.W.Looks (model X.prog X.w) h3 (typeOf (.ref a)) cls := fun A Q E s k q => wpAny_typeOf_ref (k _ _ he3) (by rw [hz3.1]; exact q)
    -- a clause's class is read
    have read : ∀ {x : Str} {np : Pos} {c : Value} {Q : Value → Shared → Prop} {E : Value → Shared → Prop}, Names X x c → Q c { s' with heap := h3 } → wpAny (model X.prog X.w) (X.A.mark (some (.ref a))) (eval (.Name x np) X.env) Q E { s' with heap := h3 } := fun {x np c Q E} hc q => by
      obtain ⟨hg, hdb, hm | ⟨hm, hv, hnn⟩⟩ := hc
      · exact ld_glob (X := X.suite a ((a, oe3) :: (X.pn ++ pins))) S3 hg hm q hdb
      · exact ld_blt (X := X.suite a ((a, oe3) :: (X.pn ++ pins))) S3 hg hm hv q hnn hdb
    suffices go : ∀ {hds' : List ExceptHandler} {l' : List (Value × Option Nat × Suite)}, Cls_ X hds' l' → wish X.K Wout D l' cls d σ' H' → wpAny (model X.prog X.w) X.A (handleBy (.ref a) X.env hds') (SP X pins D) X.xe { s' with heap := h3 } from go hh w
    intro hds' l' hk
    induction hk with
    | nil =>
      intro w
      refine wpAny_handleBy_nil ?_
      obtain ⟨k1, k2, k3, oe, vs, T, oT, ts', he, hz, hd, h1, hr⟩ := id fl3
      unfold PySem.passOn
      refine wpAny_bind (wpAny_field he hd h1 ?_)
      rw [if_neg (show ¬ ((Value.ref T == Value.none) = true) from by simp)]
      have out : wpAny (model X.prog X.w) X.A (setFlight (.ref a) X.env.frame) (fun _ s4 => wpAny (model X.prog X.w) X.A (throw (.ref a) : Sem Flow) (SP X pins D) X.xe s4) X.xe { s' with heap := h3 } := by
        rw [hf]
        exact HandSPX.setFlight_upZ fl3 fun h4 hh4 up4 => wpAny_throw (tk _ _ ⟨a, B, sI, pins, σ', H', cls, d, rfl, J, nb, (up.trans up3).trans up4, .inr (.inr (by rw [hs]; exact hh4)), na, os, ag, w⟩)
      first
        | exact wpAny_bind (wpAny_pure (wpAny_bind out))
        | exact wpAny_bind out
    | @bare x c ts b suite np p hds2 l2 hc hsu r ih =>
      intro w
      obtain ⟨k, hk, yes, no⟩ := w
      refine wpAny_handleBy_cons (codeAny_handlers_test (read hc ((PySem.W.exm_one (M := model X.prog X.w) J3.kIn LT hk).here ?_))) (by intro q; cases q)
      cases k with
      | false => exact ih (no rfl)
      | true =>
        refine codeAny_handlers_suite (HandSPX.lands_againZ fl3 fun h4 fl4 up4 => ?_)
        have J4 : Inv X pins σ' H' { s' with heap := h4 } := J.landed nb fl4.1 ((up.trans up3).trans up4) os ag
        obtain ⟨oe4, vs4, he4, hz4, hd4⟩ := fl4.there
        refine wpAny_mono ((hsu a oe4 cls d (X.pn ++ pins) hz4 ⟨_, hd4⟩).run [] _ _ H' _ (J4.suite he4 hd4 na nL nF) (yes rfl a na)) (fun f s6 z => ?_) (fun _ _ z => False.elim z)
        cases f with
        | next => obtain ⟨σ6, H6, S6, q⟩ := z; exact ⟨_, _, S6.unsuite ok, q⟩
        | brk => obtain ⟨σ6, H6, S6, q⟩ := z; exact ⟨_, _, S6.unsuite ok, q⟩
        | cont => obtain ⟨σ6, H6, S6, q⟩ := z; exact ⟨_, _, S6.unsuite ok, q⟩
        | ret u => obtain ⟨v6, σ6, H6, S6, r6, q⟩ := z; exact ⟨_, _, _, S6.unsuite ok, r6, q⟩
    | @named x n i c ts b suite np p hds2 l2 hc hi hl hsu r ih =>
      intro w
      obtain ⟨k, hk, yes, no⟩ := w
      refine wpAny_handleBy_cons (codeAny_handlers_test (read hc ((PySem.W.exm_one (M := model X.prog X.w) J3.kIn LT hk).here ?_))) (by intro q; cases q)
      cases k with
      | false => exact ih (no rfl)
      | true =>
        refine codeAny_handlers_suite_as (HandSPX.lands_againZ fl3 fun h4 fl4 up4 => ?_)
        have J4 : Inv X pins σ' H' { s' with heap := h4 } := J.landed nb fl4.1 ((up.trans up3).trans up4) os ag
        obtain ⟨oe4, vs4, he4, hz4, hd4⟩ := fl4.there
        refine store_ok (X := X.suite a ((a, oe4) :: (X.pn ++ pins))) (v := .ref a) (J4.suite he4 hd4 na nL nF) hN hi (.inl hl) rfl (fun s5 S5 => ?_) (.inr hl)
        refine wpAny_mono ((hsu a oe4 cls d (X.pn ++ pins) hz4 ⟨_, hd4⟩).run [] s5 _ H' _ S5 (yes rfl a na)) (fun f s6 z => ?_) (fun _ _ z => False.elim z)
        have gone : ∀ {σ6 : L2.St} {H6 : Hp} {Q : Shared → Prop}, Inv (X.suite a ((a, oe4) :: (X.pn ++ pins))) [] σ6 H6 s6 → (∀ s7, Inv X pins (σ6.set i none) H6 s7 → Q s7) →
            wpAny (model X.prog X.w) X.A (do bindName X.env n .none; unbindBehindTheSuite X.env n p) (fun _ s7 => Q s7) X.xe s6 := fun {σ6 H6 Q} S6 hq => gone_ok (S6.unsuite ok) hN hi hl hq
        cases f with
        | next => obtain ⟨σ6, H6, S6, q⟩ := z; exact gone S6 fun s7 J7 => ⟨_, _, J7, q⟩
        | brk => obtain ⟨σ6, H6, S6, q⟩ := z; exact gone S6 fun s7 J7 => ⟨_, _, J7, q⟩
        | cont => obtain ⟨σ6, H6, S6, q⟩ := z; exact gone S6 fun s7 J7 => ⟨_, _, J7, q⟩
        | ret u => obtain ⟨v6, σ6, H6, S6, r6, q⟩ := z; exact gone S6 fun s7 J7 => ⟨_, _, _, J7, r6, q⟩
end
end DLX
namespace DL
open PySem PySem.Spec PyProof.Rows L2
variable [PWd]

/-! ### own exceptions: raised, caught -/
/-- an own exception's class, its __init__ lays its arguments into fields -/
structure ExcOk (P : Program) (w : World) (K : PySem.W.Frag) (mg : Str → Option Value) (base : Heap) (c : Str) (k : Nat) (fields : List Str) : Prop where
  ex : ∃ fI fd ps, DLX.ExcK K (He.ga K c) fI ∧ FnOk P w K mg base (L2.CX P w) k fI fd ps (DLX.spLay (He.ga K c) fields) ∧ L2.Binds K fd ps []
  gm : mg c = some (.ref (He.ga K c))
  few : fields.length ≤ 1000
def sRaise (c : Str) (fields : List Str) (ta : TDA) : TDS := fun E ρ S => ta (E.x ρ) ρ S fun xs S1 => E.ex ⟨c, some (fields.zip xs).reverse⟩ ρ S1
section
variable {K : PySem.W.Frag} {H : Hp} {μ : List Addr}
theorem RepF.zip : ∀ {fs : List Str} {ds : List D} {vs : List V}, Reps K H μ ds vs → RepF K H μ (fs.zip ds) (fs.zip vs)
  | [], _, _, _ => .nil
  | _ :: _, _, _, .nil => .nil
  | _ :: _, _, _, .cons r q => .cons ⟨rfl, r⟩ (RepF.zip q)
theorem RepF.snoc {p : Str × D} {q : Str × V} (h : p.1 = q.1 ∧ Rep K H μ p.2 q.2) : ∀ {fs : List (Str × D)} {gs : List (Str × V)}, RepF K H μ fs gs → RepF K H μ (fs ++ [p]) (gs ++ [q])
  | _, _, .nil => .cons h .nil
  | _, _, .cons h1 t => .cons h1 (RepF.snoc h t)
theorem RepF.rev : ∀ {fs : List (Str × D)} {gs : List (Str × V)}, RepF K H μ fs gs → RepF K H μ fs.reverse gs.reverse
  | _, _, .nil => .nil
  | _, _, .cons h t => by rw [List.reverse_cons, List.reverse_cons]; exact (RepF.rev t).snoc h
end
section
variable {X : Cx} {W : WX}
theorem ds_raise {c : Str} {a : Expr} {es : List Expr} {tr : TDA} {k n : Nat} {fields : List Str} {p pos pos' : Pos} (G : ExcOk X.prog X.w X.K X.mg X.base c k fields) (hr : Room (k + 1) X.A) (hc : X.calm = true) (tk : Takes X W) (hn : fields.length = n) (ha : PA X (a :: es) (dA X.K W n tr))
    (hg : Gl X c := by rfl) (hdb : (c == ("__debug__" : Str)) = false := by decide) (he : starEach (a :: es) X.env = (false, eval a X.env) :: starEach es X.env := by rfl) (hpl : (backTo pos' (starEach es X.env)).any (·.1) = false := by rfl) :
    PS X (.Raise (some (.Call (.Name c p) (a :: es) [] pos')) none pos) (dS X.K W (sRaise c fields tr)) := by
  obtain ⟨fI, fd, ps, T, F, hb⟩ := G.ex
  refine (ps_raise hc tk (DLX.pmk_exc (CX := L2.CX X.prog X.w) T F hr hb passL hg G.gm ha hdb he hpl)).imp fun Z σ H ⟨ρ, μ, S, E, at_, h, k⟩ => ?_
  refine ⟨ρ, μ, S, _, _, at_, h, fun xs S1 vs μ1 H1 l1 h1 e1 s1 r1 => ?_, k.x at_.env⟩
  refine ⟨by rw [← r1.length, l1, hn], by rw [← r1.length, l1, ← hn]; exact G.few, fun d hd => ?_⟩
  have e2 : Ext X.K H1 μ1 (upd H1 d (.xd (fields.zip vs).reverse)) μ1 := Ext.fresh hd fun _ _ h => h
  exact k.ex _ _ _ _ _ _ _ _ h1 (e1.trans e2) ⟨at_.env.mono (e1.trans e2), s1.tup hd⟩ ⟨rfl, _, _, rfl, upd_same, (RepF.rev (RepF.zip r1)).mono e2⟩
end
/-! ### what an except suite tells: its value is of constants and of the exception's fields -/
abbrev TDX := DX → Sto → RD → Prop
def xC (d : D) : TDX := fun _ S R => R d S
def xF (c f : Str) : TDX := fun x S R => x.cls = c ∧ ∃ fs d, x.fs = some fs ∧ fs.lookup f = some d ∧ R d S
abbrev TDXA := DX → Sto → (List D → Sto → Prop) → Prop
def xNil : TDXA := fun _ S R => R [] S
def xCons (t : TDX) (r : TDXA) : TDXA := fun x S R => t x S fun d S1 => r x S1 fun ds S2 => R (d :: ds) S2
def xTup (t : TDXA) : TDX := fun x S R => t x S fun ds S1 => ds.length ≤ sizeLine ∧ R (.tup ds) S1
def heldAt (a : Addr) (i : Option Nat) (σ : L2.St) : Prop := match i with
  | none => True
  | some j => σ[j]? = some (some (.ref a))
def dX (K : PySem.W.Frag) (a : Addr) (i : Option Nat) (cls : Value) (d : Option Addr) (t : TDX) : TE := fun σ H Q => ∃ μ S R x, Sim K H μ S ∧ heldAt a i σ ∧ RepX K H μ x cls d ∧ t x S R ∧ OkV K H μ R Q
def dXA (K : PySem.W.Frag) (a : Addr) (i : Option Nat) (cls : Value) (d : Option Addr) (t : TDXA) : TA := fun σ H Q => ∃ μ S x R, Sim K H μ S ∧ heldAt a i σ ∧ RepX K H μ x cls d ∧ t x S R ∧ ∀ ds S' vs μ' H', R ds S' → Ext K H μ H' μ' → Sim K H' μ' S' → Reps K H' μ' ds vs → Q vs H'
theorem RepX.mono {K : PySem.W.Frag} {H H' : Hp} {μ μ' : List Addr} {x : DX} {cls : Value} {d : Option Addr} (r : RepX K H μ x cls d) (e : Ext K H μ H' μ') : RepX K H' μ' x cls d := by
  obtain ⟨r1, r2⟩ := r
  refine ⟨r1, ?_⟩
  cases h : x.fs with
  | none => rw [h] at r2; exact r2
  | some fs =>
    rw [h] at r2
    obtain ⟨dd, gs, h1, h2, h3⟩ := r2
    exact ⟨dd, gs, h1, e.xds _ _ h2, h3.mono e⟩
section
variable {Y : Cx} {a : Addr} {i : Option Nat} {cls : Value} {d : Option Addr}
theorem hx_C {v : V} {z : D} {e : Expr} (he : PE Y e (tC v)) (hr : ∀ H μ, Rep Y.K H μ z v) : PE Y e (dX Y.K a i cls d (xC z)) :=
  he.imp fun σ H Q ⟨μ, S, R, x, s, hh, rx, h, ok⟩ => ok _ _ _ _ _ h Ext.refl s (hr _ _)
theorem hx_int {k j pos} : PE Y (.Constant (.int k) j pos) (dX Y.K a i cls d (xC (.int k))) := hx_C pe_int fun _ _ => .int k
theorem hx_bl {k j pos} : PE Y (.Constant (.bool k) j pos) (dX Y.K a i cls d (xC (.bl k))) := hx_C pe_bl fun _ _ => .bl k
theorem hx_non {j pos} : PE Y (.Constant .none j pos) (dX Y.K a i cls d (xC .non)) := hx_C pe_non fun _ _ => .non
theorem hx_str {k j pos} : PE Y (.Constant (.str k) j pos) (dX Y.K a i cls d (xC (.str k))) := hx_C pe_str fun _ _ => .str k
theorem hxa_nil : PA Y [] (dXA Y.K a i cls d xNil) := pa_nil.imp fun σ H Q ⟨μ, S, x, R, s, hh, rx, h, ok⟩ => ok _ _ _ _ _ h Ext.refl s .nil
theorem hxa_cons {e : Expr} {es : List Expr} {t : TDX} {r : TDXA} (h1 : PE Y e (dX Y.K a i cls d t)) (h2 : PA Y es (dXA Y.K a i cls d r)) (hs : starEach (e :: es) Y.env = (false, eval e Y.env) :: starEach es Y.env := by rfl) : PA Y (e :: es) (dXA Y.K a i cls d (xCons t r)) := by
  refine (pa_cons h1 h2 hs).imp fun σ H Q ⟨μ, S, x, R, s, hh, rx, h, ok⟩ => ?_
  refine ⟨μ, S, _, x, s, hh, rx, h, fun z S1 v μ1 H1 h1 e1 s1 r1 => ?_⟩
  refine ⟨μ1, S1, x, _, s1, hh, rx.mono e1, h1, fun zs S2 vs μ2 H2 h2 e2 s2 r2 => ?_⟩
  exact ok _ _ _ _ _ h2 (e1.trans e2) s2 (.cons (r1.mono e2) r2)
theorem hx_tup {es : List Expr} {k} {pos : Pos} {t : TDXA} (h : PA Y es (dXA Y.K a i cls d t)) : PE Y (.Tuple es k pos) (dX Y.K a i cls d (xTup t)) := by
  refine (pe_tup h).imp fun σ H Q ⟨μ, S, R, x, s, hh, rx, h, ok⟩ => ?_
  refine ⟨μ, S, x, _, s, hh, rx, h, fun ds S1 vs μ1 H1 h1 e1 s1 r1 => ⟨by rw [← r1.length]; exact h1.1, fun p hp => ?_⟩⟩
  obtain ⟨e', s', r'⟩ := s1.newTup hp r1
  exact ok _ _ _ _ _ h1.2 (e1.trans e') s' r'
end
section
variable {X : Cx} {W : WX}
theorem hx_fld {a : Addr} {oe : Obj} {cls : Value} {d : Option Addr} {pn : List (Addr × Obj)} {x f c : Str} {j : Nat} {p pos : Pos} (T : XfC X.K (He.ga X.K c)) (hno : PySem.W.findIn X.K (.ref (He.ga X.K c)) f = some none) (hz : Zc cls d oe) (hf : ∃ vs, oe.data = .fields vs)
    (hN : X.N[j]? = some x := by rfl) (hv : Vis X.env.scope x := by first | exact Or.inl rfl | exact Or.inr (Or.inl rfl) | exact Or.inr (Or.inr rfl)) (hd : (x == ("__debug__" : Str)) = false := by decide) (hcd : (x == ("__classdict__" : Str)) = false := by decide)
    (hb : attributeBase (.Name x p) f X.env (eval (.Name x p) X.env) = eval (.Name x p) X.env := by rfl) :
    PE (X.suite a ((a, oe) :: pn)) (.Attribute (.Name x p) f pos) (dX X.K a (some j) cls d (xF c f)) := by
  refine (pe_xf T hno hz hf (pe_var (X := X.suite a ((a, oe) :: pn)) (i := j) hN hv hd hcd) hb).imp fun σ H Q ⟨μ, S, R, x, s, hh, rx, h, ok⟩ => ?_
  obtain ⟨hc, fs, z, h1, h2, h3⟩ := h
  obtain ⟨rc, rx⟩ := rx
  rw [h1] at rx
  obtain ⟨dd, gs, ed, eh, rf⟩ := rx
  obtain ⟨v, hv', rv⟩ := rf.lookup h2
  exact ⟨.ref a, hh, rfl, by rw [rc, hc], dd, gs, v, ed, eh, hv', ok _ _ _ _ _ h3 Ext.refl s rv⟩
/-- a clause: its class, the classes that it catches, the name's place, what it tells -/
abbrev HD := Str × List Str × Option Nat × TDX
def inTo (i : Option Nat) (ρ : Ev) : Prop := match i with
  | none => True
  | some j => j < ρ.length
def hndW : List HD → DX → Ev → Sto → RD → Prop → Prop
  | [], _, _, _, _, Z => Z
  | (_, cs, i, t) :: r, x, ρ, S, R, Z => ift (cs.contains x.cls) (inTo i ρ ∧ t x S R) (hndW r x ρ S R Z)
def sTry (cls : List Str) (t : TDS) (hs : List HD) : TDS := fun E ρ S => t { E with ex := fun x ρ' S' => x.cls ∈ cls ∧ hndW hs x ρ' S' E.rt (E.ex x ρ' S') } ρ S
def layH (K : PySem.W.Frag) (hs : List HD) : List (Value × Option Nat × DLX.Suite) := hs.map fun h => (.ref (He.ga K h.1), h.2.2.1, fun a cls d D σ H => dX K a h.2.2.1 cls d h.2.2.2 σ H D.rt)
theorem hc_nil : DLX.Cls_ X [] (layH X.K []) := .nil
theorem hc_bare {x : Str} {cs : List Str} {t : TDX} {e : Expr} {np rp p : Pos} {hds : List ExceptHandler} {hs : List HD} (hm : X.mg x = some (.ref (He.ga X.K x)))
    (he : ∀ (a : Addr) (oe : Obj) (cls : Value) (d : Option Addr) (pn : List (Addr × Obj)), Zc cls d oe → (∃ vs, oe.data = .fields vs) → PE (X.suite a ((a, oe) :: pn)) e (dX X.K a none cls d t)) (r : DLX.Cls_ X hds (layH X.K hs)) (hg : Gl X x := by rfl) (hdb : (x == ("__debug__" : Str)) = false := by decide) :
    DLX.Cls_ X (.ExceptHandler (some (.Name x np)) none [.Return (some e) rp] p :: hds) (layH X.K ((x, cs, none, t) :: hs)) :=
  .bare ⟨hg, hdb, .inl hm⟩ (fun a oe cls d pn hz hf => pss_one (ps_ret (he a oe cls d pn hz hf))) r
theorem hc_named {x n : Str} {i : Nat} {cs : List Str} {t : TDX} {e : Expr} {np rp p : Pos} {hds : List ExceptHandler} {hs : List HD} (hm : X.mg x = some (.ref (He.ga X.K x)))
    (he : ∀ (a : Addr) (oe : Obj) (cls : Value) (d : Option Addr) (pn : List (Addr × Obj)), Zc cls d oe → (∃ vs, oe.data = .fields vs) → PE (X.suite a ((a, oe) :: pn)) e (dX X.K a (some i) cls d t)) (r : DLX.Cls_ X hds (layH X.K hs)) (hg : Gl X x := by rfl) (hdb : (x == ("__debug__" : Str)) = false := by decide)
    (hi : X.N[i]? = some n := by rfl) (hl : X.env.kindOf n = some .local := by rfl) :
    DLX.Cls_ X (.ExceptHandler (some (.Name x np)) (some n) [.Return (some e) rp] p :: hds) (layH X.K ((x, cs, some i, t) :: hs)) :=
  .named ⟨hg, hdb, .inl hm⟩ hi hl (fun a oe cls d pn hz hf => pss_one (ps_ret (he a oe cls d pn hz hf))) r
theorem wish_of {K : PySem.W.Frag} {H : Hp} {μ : List Addr} {E : DEnds} {Z : Ends} {cl : List Str} (k : EndsOk K W H μ E Z) : ∀ (hs : List HD), (∀ x ∈ cl, ∀ h ∈ hs, PySem.W.exmOne K (.ref (He.ga K x)) (.ref (He.ga K h.1)) = some (h.2.1.contains x)) →
    ∀ (x : DX) (ρ' : Ev) (S' : Sto) (cls : Value) (dx : Option Addr) (σ' : L2.St) (μ' : List Addr) (H' : Hp), x.cls ∈ cl → hndW hs x ρ' S' E.rt (E.ex x ρ' S') → Ext K H μ H' μ' → At K σ' H' ρ' μ' S' → RepX K H' μ' x cls dx → DLX.wish K W Z (layH K hs) cls dx σ' H' := by
  intro hs
  induction hs with
  | nil => intro _ x ρ' S' cls dx σ' μ' H' _ h e a' r; exact k.ex _ _ _ _ _ _ _ _ h e a' r
  | cons h0 hs ih =>
    obtain ⟨q, cs, i, t⟩ := h0
    intro hx x ρ' S' cls dx σ' μ' H' hc h e a' r
    refine ⟨cs.contains x.cls, by rw [r.1]; exact hx _ hc _ (by simp), fun hb a ha => ?_, fun hb => ?_⟩
    · have h' : ift (cs.contains x.cls) (inTo i ρ' ∧ t x S' E.rt) _ := h
      rw [hb] at h'
      obtain ⟨hin, ht⟩ := ift_t h'
      cases i with
      | none => exact ⟨μ', S', E.rt, x, a'.sim, trivial, r, ht, fun d S2 v μ2 H2 h2 e2 s2 r2 => k.rt _ _ _ _ _ h2 (e.trans e2) s2 r2⟩
      | some i =>
        refine ⟨μ', S', E.rt, x, a'.sim, ?_, r, ht, fun d S2 v μ2 H2 h2 e2 s2 r2 => k.rt _ _ _ _ _ h2 (e.trans e2) s2 r2⟩
        show (σ'.set i (some (V.ref a)))[i]? = some (some (V.ref a))
        exact List.getElem?_set_self (by rw [a'.env.len]; exact hin)
    · have h' : ift (cs.contains x.cls) (inTo i ρ' ∧ t x S' E.rt) _ := h
      rw [hb] at h'
      exact ih (fun x hx' h hh => hx x hx' h (List.mem_cons_of_mem _ hh)) x ρ' S' cls dx σ' μ' H' hc (ift_f h') e a' r
theorem ds_try {cl : List Str} {t : TDS} {hs : List HD} {body : List Stmt} {h₀ : ExceptHandler} {hds : List ExceptHandler} {pos : Pos} (hs' : X.stack = X.env :: X.outer) (hf : X.env.frame = some X.env.locals) (hN : X.N.Nodup) (tk : Takes X W)
    (hx : ∀ x ∈ cl, ∀ h ∈ hs, PySem.W.exmOne X.K (.ref (He.ga X.K x)) (.ref (He.ga X.K h.1)) = some (h.2.1.contains x))
    (hh : DLX.Cls_ X (h₀ :: hds) (layH X.K hs))
    (hb : ∀ (W' : WX) (pn : List (Addr × Obj)) (xe : Value → Shared → Prop), Takes (X.tr pn xe) W' → PassesOwn (model X.prog X.w) X.A X.env xe → PSs (X.tr pn xe) body (dS X.K W' t)) :
    PS X (.Try body (h₀ :: hds) [] [] pos) (dS X.K W (sTry cl t hs)) := by
  refine (DLX.ps_tryE (tb := fun W' => dS X.K W' t) hs' hf hN tk hb hh).imp fun Z σ H ⟨ρ, μ, S, E, at_, h, k⟩ => ?_
  refine ⟨ρ, μ, S, _, at_, h, k.nx, k.rt, k.bk, k.ct, fun x ρ' S' cls dx σ' μ' H' hx' e a' r => ?_⟩
  exact wish_of k hs hx x ρ' S' cls dx σ' μ' H' hx'.1 hx'.2 e a' r
end
end DL
namespace DL
open PySem PySem.Spec PyProof.Rows L2
variable [PWd]

/-! ### the head's facts -/
section
variable {fa : List He.Fa} {fn : List He.DefD} {cs : List CS} {K : PySem.W.Frag} {mg : Str → Option Value} {P : Program} {w : World} {base : Heap}
theorem Tx.exc (T : Tx fa fn cs K mg) (i : Nat) {c : Str} (h : cs[i]? = some (.exc c) := by rfl) : DLX.ExcK K (He.ga K c) (He.ma K (He.ga K c) "__init__") := by
  have c2 := T.csq i h
  simp only [conX, Bool.and_eq_true] at c2
  obtain ⟨h1, h2, h3, h4, h5, h6, h7, h8, h9⟩ := c2
  exact ⟨h1, h2, h3, He.eqO_ok h4, of_decide_eq_true h5, of_decide_eq_true h6, h7, He.eqO_ok h8, h9⟩
theorem Tx.exf (T : Tx fa fn cs K mg) (i : Nat) {c f : Str} (h : cs[i]? = some (.exf c f) := by rfl) : PySem.W.findIn K (.ref (He.ga K c)) f = some none := He.eqO_ok (T.csq i h)
theorem Tx.exm (T : Tx fa fn cs K mg) (i : Nat) {x q : Str} {b : Bool} (h : cs[i]? = some (.exm x q b) := by rfl) : PySem.W.exmOne K (.ref (He.ga K x)) (.ref (He.ga K q)) = some b := of_decide_eq_true (T.csq i h)
theorem Tx.xfc (T : Tx fa fn cs K mg) (i : Nat) {c : Str} (h : cs[i]? = some (.xfc c) := by rfl) : XfC K (He.ga K c) := xfB_ok (T.csq i h)
theorem Tx.nof (T : Tx fa fn cs K mg) (i : Nat) {c : Str} {t : Sum String Str} (h : cs[i]? = some (.nof c t) := by rfl) : PySem.W.notFirst K (He.ga K c) (clsV K t) = true := T.csq i h
theorem Tx.mth (T : Tx fa fn cs K mg) (i : Nat) {c m : Str} (h : cs[i]? = some (.mth c m) := by rfl) : PySem.W.findIn K (.ref (He.ga K c)) m = some (some (.ref (He.ma K (He.ga K c) m))) ∧ PySem.W.isFn K (.ref (He.ma K (He.ga K c) m)) = true := by
  have c2 := T.csq i h
  simp only [conX, Bool.and_eq_true] at c2
  exact ⟨He.eqO_ok c2.1, c2.2⟩
/-- a method of the text by its body's reading -/
structure MthOk (P : Program) (w : World) (K : PySem.W.Frag) (mg : Str → Option Value) (base : Heap) (c m : Str) (k : Nat) (ps : List Str) (n : Nat) (sp : DSp) : Prop where
  ex : ∃ fd, FnOk P w K mg base (L2.CX P w) k (He.ma K (He.ga K c) m) fd ps (dSp K n sp) ∧ L2.Binds K fd ps []
theorem Tx.mthD (T : Tx fa fn cs K mg) {c mm q : Str} {st : Stmt} {k n m : Nat} {N ps : List Str} {t : TDS}
    (i : Nat) (hi : fn[i]? = some ⟨(c, some mm), mm, q, defArgs st, defBody st, defScope st, [], []⟩)
    (sc : FnScope N ps (defScope st)) (hn : ps.length = n) (hm : N.length = m)
    (hbind : ∀ (kV doc pm : Value) (an : Option Addr) (cdv ct : Value) (us : List Value), us.length = ps.length → bindArgs (PySem.W.fnOf mm q (defArgs st) (defBody st) (defScope st) .none kV doc pm an cdv ct) ⟨us, []⟩ = pure (ps.zip us))
    (hb : ∀ (cdv : Value) (A : Around) (outer : List Env) (s : Shared) (H : Hp) (E : XK), Room k (A.deeper (envOfC q (defScope st) s.heap.objs.size (He.ma K (He.ga K c) mm) cdv)) →
      PSs (cxOf (L2.CX P w) P w K mg base N q (defScope st) (He.ma K (He.ga K c) mm) cdv A outer s H E) (defBody st) (dS K (fun cls d _ H' => E cls d H') t)) : MthOk P w K mg base c mm (k + 1) ps n (wOf m t) := by
  obtain ⟨_, X, G, cc⟩ := T.ex
  obtain ⟨fd, F⟩ := cc.d.def_ i hi
  have F' : FunD K mm q (defArgs st) (defBody st) (defScope st) [] [] (He.ma K (He.ga K c) mm) fd := F
  exact ⟨⟨fd, FunD.okD F' sc hn hm hb, F'.bindsN hbind⟩⟩
/-- an exception's __init__ of one field -/
theorem Tx.excD1 (T : Tx fa fn cs K mg) {c q f1 p0 p1 : Str} {st : Stmt} (gm : mg c = some (.ref (He.ga K c))) (ek : DLX.ExcK K (He.ga K c) (He.ma K (He.ga K c) "__init__"))
    (i : Nat) (hi : fn[i]? = some ⟨(c, some "__init__"), "__init__", q, defArgs st, defBody st, defScope st, [], []⟩)
    (sc : FnScope [p0, p1] [p0, p1] (defScope st))
    (hbind : ∀ (kV doc pm : Value) (an : Option Addr) (cdv ct : Value) (us : List Value), us.length = 2 → bindArgs (PySem.W.fnOf "__init__" q (defArgs st) (defBody st) (defScope st) .none kV doc pm an cdv ct) ⟨us, []⟩ = pure ([p0, p1].zip us))
    (hb : ∀ (cdv : Value) (A : Around) (outer : List Env) (s : Shared) (H : Hp) (E : XK),
      PSs (cxOf (L2.CX P w) P w K mg base [p0, p1] q (defScope st) (He.ma K (He.ga K c) "__init__") cdv A outer s H E) (defBody st) (DLX.tFld K (He.ga K c) (He.ma K (He.ga K c) "__init__") f1 (tVar 0) (tVar 1))) : ExcOk P w K mg base c 1 [f1] := by
  obtain ⟨_, X, G, cc⟩ := T.ex
  obtain ⟨fd, F⟩ := cc.d.def_ i hi
  have F' : FunD K "__init__" q (defArgs st) (defBody st) (defScope st) [] [] (He.ma K (He.ga K c) "__init__") fd := F
  refine ⟨⟨_, fd, [p0, p1], ek, F'.ok sc ?_ ?_, F'.bindsN hbind⟩, gm, by simp⟩
  · rintro vs H Q E ⟨a, ys, rfl, hl, _⟩
    simp [hl]
  · rintro cdv A outer s H vs Q E hr ⟨a, ys, rfl, hl, ha, hq⟩
    refine ⟨_, hb cdv A outer s H E, ?_⟩
    match ys, hl with
    | [y1], _ => exact ⟨y1, rfl, .ref a, rfl, a, rfl, .inl ⟨ha, fun dx h1 h2 => hq dx h1 h2⟩⟩
theorem Tx.excD2 (T : Tx fa fn cs K mg) {c q f1 f2 p0 p1 p2 : Str} {st : Stmt} (gm : mg c = some (.ref (He.ga K c))) (ek : DLX.ExcK K (He.ga K c) (He.ma K (He.ga K c) "__init__"))
    (i : Nat) (hi : fn[i]? = some ⟨(c, some "__init__"), "__init__", q, defArgs st, defBody st, defScope st, [], []⟩)
    (sc : FnScope [p0, p1, p2] [p0, p1, p2] (defScope st))
    (hbind : ∀ (kV doc pm : Value) (an : Option Addr) (cdv ct : Value) (us : List Value), us.length = 3 → bindArgs (PySem.W.fnOf "__init__" q (defArgs st) (defBody st) (defScope st) .none kV doc pm an cdv ct) ⟨us, []⟩ = pure ([p0, p1, p2].zip us))
    (hb : ∀ (cdv : Value) (A : Around) (outer : List Env) (s : Shared) (H : Hp) (E : XK),
      PSs (cxOf (L2.CX P w) P w K mg base [p0, p1, p2] q (defScope st) (He.ma K (He.ga K c) "__init__") cdv A outer s H E) (defBody st)
        (L2.tSeq (DLX.tFld K (He.ga K c) (He.ma K (He.ga K c) "__init__") f1 (tVar 0) (tVar 1)) (DLX.tFld K (He.ga K c) (He.ma K (He.ga K c) "__init__") f2 (tVar 0) (tVar 2)))) : ExcOk P w K mg base c 1 [f1, f2] := by
  obtain ⟨_, X, G, cc⟩ := T.ex
  obtain ⟨fd, F⟩ := cc.d.def_ i hi
  have F' : FunD K "__init__" q (defArgs st) (defBody st) (defScope st) [] [] (He.ma K (He.ga K c) "__init__") fd := F
  refine ⟨⟨_, fd, [p0, p1, p2], ek, F'.ok sc ?_ ?_, F'.bindsN hbind⟩, gm, by simp⟩
  · rintro vs H Q E ⟨a, ys, rfl, hl, _⟩
    simp [hl]
  · rintro cdv A outer s H vs Q E hr ⟨a, ys, rfl, hl, ha, hq⟩
    refine ⟨_, hb cdv A outer s H E, ?_⟩
    match ys, hl with
    | [y1, y2], _ =>
      refine ⟨y1, rfl, .ref a, rfl, a, rfl, .inl ⟨ha, fun dx h1 h2 => ?_⟩⟩
      refine ⟨y2, rfl, .ref a, rfl, a, rfl, .inr ⟨dx, [(f1, y1)], upd_same, by rw [upd_ne h2, upd_same], by simp, ?_⟩⟩
      have q1 := hq dx h1 h2
      have e : upd (upd (upd H dx (exd dx [(f1, y1)])) a (exo a (He.ga K c) (some dx))) dx (exd dx [(f2, y2), (f1, y1)]) = upd (upd H dx (exd dx ([f1, f2].zip [y1, y2]).reverse)) a (exo a (He.ga K c) (some dx)) := by
        funext b
        rcases Classical.em (b = dx) with z | z
        · rw [z, upd_same, upd_ne h2, upd_same]; rfl
        · rw [upd_ne z]
          rcases Classical.em (b = a) with z2 | z2
          · rw [z2, upd_same, upd_same]
          · rw [upd_ne z2, upd_ne z, upd_ne z2, upd_ne z]
      rw [e]
      exact q1
end

/-! ### a local that holds a def, called -/
def eCallF (i : Nat) (fs : List (Str × DSp)) (t : TDA) : TD := fun Rx ρ S R => match ρ[i]? with
  | some (some (.fn x)) => (match fs.lookup x with
    | some sp => t Rx ρ S fun xs S1 => Cal sp xs S1 R noX
    | none => False)
  | _ => False
def FnsOk (P : Program) (w : World) (K : PySem.W.Frag) (mg : Str → Option Value) (base : Heap) (A : Around) (n : Nat) (fs : List (Str × DSp)) : Prop := ∀ f sp, fs.lookup f = some sp → ∃ st k ps, DefOk P w K mg base f st k ps n sp ∧ Room k A
theorem fns_nil {P : Program} {w : World} {K : PySem.W.Frag} {mg : Str → Option Value} {base : Heap} {A : Around} {n : Nat} : FnsOk P w K mg base A n [] := fun _ _ h => by cases h
theorem fns_cons {P : Program} {w : World} {K : PySem.W.Frag} {mg : Str → Option Value} {base : Heap} {A : Around} {n k : Nat} {x : Str} {sp : DSp} {st : Stmt} {ps : List Str} {fs : List (Str × DSp)} (G : DefOk P w K mg base x st k ps n sp) (hr : Room k A) (r : FnsOk P w K mg base A n fs) : FnsOk P w K mg base A n ((x, sp) :: fs) := fun f sp' h => by
  rw [List.lookup_cons] at h
  cases hb : f == x with
  | true =>
    rw [hb] at h
    cases h
    rw [eq_of_beq hb]
    exact ⟨st, k, ps, G, hr⟩
  | false =>
    rw [hb] at h
    exact r f sp' h
section
variable {X : Cx} {W : WX} {a : Expr} {es : List Expr} {tr : TDA} {n : Nat}
theorem de_callF {i : Nat} {x : Str} {fs : List (Str × DSp)} {p pos : Pos} (ok_ : FnsOk X.prog X.w X.K X.mg X.base X.A n fs) (ha : PA X (a :: es) (dA X.K W n tr)) (hN : X.N[i]? = some x := by rfl) (hv : Vis X.env.scope x := by first | exact Or.inl rfl | exact Or.inr (Or.inl rfl) | exact Or.inr (Or.inr rfl))
    (hdb : (x == ("__debug__" : Str)) = false := by decide) (hcd : (x == ("__classdict__" : Str)) = false := by decide)
    (he : starEach (a :: es) X.env = (false, eval a X.env) :: starEach es X.env := by rfl) (hpl : (backTo pos (starEach es X.env)).any (·.1) = false := by rfl) : PE X (.Call (.Name x p) (a :: es) [] pos) (dE X.K W (eCallF i fs tr)) := by
  refine ⟨fun pins s σ H Q I ⟨ρ, μ, S, R, Rx, at_, h, ok, ox⟩ => ?_⟩
  unfold eCallF at h
  split at h
  · rename_i f hf
    split at h
    · rename_i sp hsp
      obtain ⟨st, k, ps, G, hr⟩ := ok_ f sp hsp
      obtain ⟨fd, F, _, hb⟩ := G.ex
      obtain ⟨v, hs, rv⟩ := at_.env.at_ i _ hf
      cases rv
      refine (pe_callL (i := i) (dvs := []) (ds := []) (E := fun _ _ _ => False) F hr hN hv G.kp hb .nil passL ha hdb hcd he hpl).run pins s σ H Q I ⟨hs, ?_⟩
      refine ⟨ρ, μ, S, _, Rx, at_, h, fun xs S1 vs μ1 H1 l1 h1 e1 s1 r1 => ?_, ox⟩
      show dSp X.K n sp (vs ++ []) H1 Q _
      rw [List.append_nil]
      exact ⟨_, _, _, _, noX, s1, r1, l1, h1.out, ok.ext e1, fun _ _ _ _ _ _ z => z.elim⟩
    · exact h.elim
  · exact h.elim
/-- a def's name as a value -/
theorem de_fname {x : Str} {pos : Pos} (hm : X.mg x = some (.ref (He.ga X.K x))) (hg : Gl X x := by rfl) (hd : (x == ("__debug__" : Str)) = false := by decide) : PE X (.Name x pos) (dE X.K W (eC (.fn x))) :=
  de_glob (v := .ref (He.ga X.K x)) hm rfl (fun _ _ => .fn x) hg hd
end

/-! ### own == -/
/-- x == y, x an instance of c whose own __eq__ keeps sp; y of a kind or an instance of a class of cls -/
inductive ownAt (cls : List Str) (c : Str) (sp : DSp) (x y : D) (S : Sto) (R : RD) : Prop
  | mk (n : Nat) (fs : List (Str × D)) (hx : x = .ref n) (h : S[n]? = some (.ins c fs)) (hy : clsAt cls y S fun _ => True) (hk : Cal sp [x, y] S R noX)
def eqOwn (cls : List Str) (c : Str) (sp : DSp) : OD := fun x y S R => ownAt cls c sp x y S R
structure EqOk (K : PySem.W.Frag) (cls : List Str) (c : Str) : Prop where
  own : ∀ d ∈ cls, InsK K d ∧ Cls K (He.ga K d) ∧ PySem.W.notFirst K (He.ga K c) (.ref (He.ga K d)) = true
  base : ∀ k, k < 6 → PySem.W.notFirst K (He.ga K c) (.type (kName k)) = true
  fd : PySem.W.findIn K (.ref (He.ga K c)) "__eq__" = some (some (.ref (He.ma K (He.ga K c) "__eq__"))) ∧ PySem.W.isFn K (.ref (He.ma K (He.ga K c) "__eq__")) = true
theorem ty_of {K : PySem.W.Frag} {H : Hp} {μ : List Addr} {S : Sto} {cls : List Str} {c : Str} {d : D} {v : V} {Z : Sum Nat Str → Prop} (o : EqOk K cls c) (s : Sim K H μ S) (r : Rep K H μ d v) (h : clsAt cls d S Z) :
    ∃ u, TyX K H v u ∧ PySem.W.notFirst K (He.ga K c) u = true := by
  unfold clsAt at h
  cases r with
  | non => exact ⟨_, .base .non, o.base 0 (by decide)⟩
  | bl b => exact ⟨_, .base (.bl b), o.base 1 (by decide)⟩
  | int i => exact ⟨_, .base (.int i), o.base 2 (by decide)⟩
  | str x => exact ⟨_, .base (.str x), o.base 3 (by decide)⟩
  | fn x => exact h.elim
  | tup t' q =>
    refine ⟨.type "tuple", ?_, o.base 4 (by decide)⟩
    rcases t' with (t' | ⟨o, t'⟩) | ⟨o, its, n, h1, h2, _⟩
    · exact .base (.tup t')
    · exact .fTuple t'
    · exact .kTuple h1 h2
  | ref g =>
    cases h with
    | lst xs e h =>
      refine ⟨.type "list", ?_, o.base 5 (by decide)⟩
      rcases e with e | e
      · obtain ⟨vs, hv, q⟩ := s.lst g e
        exact .base (.lst hv)
      · obtain ⟨vs, hv, q⟩ := s.fix g e
        rcases hv with ⟨o, hv⟩ | ⟨o, its, n, h1, h2, _⟩
        · exact .base (.frz hv)
        · exact .kList h1 h2
    | ins d fs e hc h =>
      obtain ⟨dx, gs, hv, q⟩ := s.ins g e
      obtain ⟨i, cl, hk⟩ := o.own d hc
      exact ⟨_, .base (.ins hv cl i.ha i.hn i.ht i.hm), hk⟩
def rOwnI (K : PySem.W.Frag) (C : Addr) (sp : Sp) : R2 := fun x y H Q => ∃ a dx fs u, x = .ref a ∧ H a = some (.ins C dx fs) ∧ TyX K H y u ∧ PySem.W.notFirst K C u = true ∧ sp [x, y] H Q E0
theorem op_ownI {X : Cx} {C g : Addr} {n : Nat} {sp : Sp} (hs : PySem.W.findIn X.K (.ref C) "__eq__" = some (some (.ref g))) (hf : PySem.W.isFn X.K (.ref g) = true) (F : FnR X.prog X.w X.K X.mg X.base (L2.CX X.prog X.w) n g sp) (hr : Room n X.A) : OpR X (compareOp .Eq) (rOwnI X.K C sp) := by
  intro pins s σ H x y v u Q I rx ry h
  obtain ⟨a, dx, fs, t, rfl, ha, ty, hn, q⟩ := h
  cases (show v = Value.ref a from rx)
  obtain ⟨P, hP, hs', _⟩ := kit_of I ry ty
  obtain ⟨mA, J, _⟩ := ins_get I.hok ha
  obtain ⟨od, J, _⟩ := J.look
  obtain ⟨m, hF⟩ := I.fr
  show wpAny _ _ (richCompare .Eq _ _) _ _ _
  refine PySem.W.cmp_K (op := .Eq) (tb := t) hr.units0 hF I.ok.mod.kin J (hP.ty _ _ I.kIn hs') hn hs hf ?_
  refine wpAny_mono (wpAny_call (run_fnR (us := [.ref a, u]) (vs := [.ref a, y]) F hr passL I (.cons rfl (.cons ry .nil)) q)) (fun w s' z => ?_) fun _ _ x => x
  obtain ⟨z', H', I', rz, qz⟩ := z
  exact SlX.cmpback rz ⟨z', H', I', rz, qz⟩
section
variable {X : Cx} {W : WX} {a b : Expr} {ta tb : TD} {pos : Pos} {n : Nat}
theorem br_own {cls : List Str} {c : Str} {sp : DSp} (o : EqOk X.K cls c) : Br2 X.K (rOwnI X.K (He.ga X.K c) (dSp X.K 2 sp)) (eqOwn cls c sp) := by
  intro x y S R vx vy μ H Q s r1 r2 h ok
  cases h with | mk n fs hx h hy hk =>
  subst hx
  obtain ⟨u, ty, hn⟩ := ty_of o s r2 hy
  have r1' := r1
  cases r1 with | ref g =>
  obtain ⟨dx, gs, hv, q⟩ := s.ins g h
  exact ⟨_, dx, gs, u, rfl, hv, ty, hn, _, μ, S, R, noX, s, .cons r1' (.cons r2 .nil), rfl, hk.out, ok, fun _ _ _ _ _ _ z => z.elim⟩
theorem op_own_ {cls : List Str} {c : Str} {sp : DSp} {ps : List Str} {k : Nat} (o : EqOk X.K cls c) (G : MthOk X.prog X.w X.K X.mg X.base c "__eq__" k ps 2 sp) (hr : Room k X.A) : OpR X (compareOp .Eq) (rOwnI X.K (He.ga X.K c) (dSp X.K 2 sp)) := by
  obtain ⟨fd, F, hb⟩ := G.ex
  have FR := FnOk.raw F hb .nil
  exact op_ownI o.fd.1 o.fd.2 (FR.imp fun vs H Q E h => by rw [List.append_nil]; exact h) hr
theorem de_eqOwn {cls : List Str} {c : Str} {sp : DSp} {ps : List Str} {k : Nat} (o : EqOk X.K cls c) (G : MthOk X.prog X.w X.K X.mg X.base c "__eq__" k ps 2 sp) (hr : Room k X.A) (ha : PE X a (dE X.K W ta)) (hb : PE X b (dE X.K W tb)) : PE X (.Compare a [.Eq] [b] pos) (dE X.K W (e2 (eqOwn cls c sp) ta tb)) :=
  de_cmp (op_own_ o G hr) (br_own o) ha hb (nomark _)
end
end DL
namespace DL
open PySem PySem.Spec PyProof.Rows L2
variable [PWd]

/-! ### list('..') -/
def listS : OC := fun xs S R => match xs with
  | [.str z] => z.cps.size ≤ sizeLine ∧ R (.ref S.length) (S ++ [.lst (z.cps.toList.map fun c => .str ⟨#[c]⟩)])
  | _ => False
theorem reps_signs {K : PySem.W.Frag} {H : Hp} {μ : List Addr} : ∀ l : List Nat, Reps K H μ (l.map fun c => .str ⟨#[c]⟩) (l.map fun c => V.str ⟨#[c]⟩)
  | [] => .nil
  | c :: l => .cons (.str _) (reps_signs l)
theorem br_listS {K : PySem.W.Frag} : BrC K (fun xs H Q => ∃ z : Str, xs = [.str z] ∧ z.cps.size ≤ sizeLine ∧ ∀ l, H l = none → Q (.ref l) (upd H l (.lst (z.cps.toList.map fun c => V.str ⟨#[c]⟩)))) listS := by
  intro xs S R vs μ H Q s r h ok
  unfold listS at h
  split at h
  · cases r with | cons r1 r =>
    cases r
    cases r1
    refine ⟨_, rfl, h.1, fun l hl => ?_⟩
    obtain ⟨e, s', r⟩ := s.newLst hl (reps_signs (K := K) (H := H) (μ := μ) _)
    exact ok _ _ _ _ _ h.2 e s' r
  · exact h.elim

/-! ### dicts made -/
section
variable {K : PySem.W.Frag} {H : Hp} {μ : List Addr}
theorem RepDK.put {k d : D} {v : V} {key : Key} (hk : nkD k = some (kN key)) (r : Rep K H μ d v) {kvs : List (D × D)} {ks : List (Key × V)} (R : RepDK K H μ kvs ks) : RepDK K H μ (putP kvs k d) (putK ks key v) := by
  have hs : (DL.look kvs k).isSome = ks.any fun kv => decide (kv.1 = key) := by
    clear r
    induction R with
    | nil => rfl
    | @cons p u kvs ks r1 q ih =>
      rw [List.any_cons]
      by_cases e : p.1 = k
      · have eu : u.1 = key := by
          have := r1.1
          rw [e, hk] at this
          exact (kN_inj (Option.some.inj this)).symm
        rw [look_pos e, decide_eq_true eu]
        rfl
      · have eu : u.1 ≠ key := fun z => e (nkD_inj _ _ _ r1.1 (by rw [hk, z]))
        rw [look_neg e, decide_eq_false eu, ih, Bool.false_or]
  unfold putP putK
  rw [hs]
  split
  · rename_i hc
    clear hs hc
    induction R with
    | nil => exact .nil
    | @cons p u' kvs us r1 q ih =>
      rw [List.map_cons, List.map_cons]
      refine .cons ?_ ih
      by_cases e : p.1 = k
      · have eu : u'.1 = key := by
          have := r1.1
          rw [e, hk] at this
          exact (kN_inj (Option.some.inj this)).symm
        rw [if_pos (beqD_iff.mpr e), if_pos eu]
        exact ⟨r1.1, r⟩
      · have eu : u'.1 ≠ key := fun z => e (nkD_inj _ _ _ r1.1 (by rw [hk, z]))
        rw [if_neg (by rw [beqD_ne e]; simp), if_neg eu]
        exact r1
  · exact Paired.snoc R ⟨hk, r⟩
theorem RepDK.rl : ∀ {kvs : List (D × D)} {ks : List (Key × V)} {us : List (Key × Value)}, RepDK K H μ kvs ks → KV ks us → RL K H μ kvs us
  | _, _, _, .nil, .nil => .nil
  | _, _, _, .cons h t, .cons h' t' => .cons ⟨by rw [h.1, ← h'.1], _, h.2, h'.2⟩ (RepDK.rl t t')
def mergeP (kvs : List (D × D)) (more : List (D × D)) : List (D × D) := more.foldl (fun acc p => putP acc p.1 p.2) kvs
theorem RepDK.merge : ∀ {more : List (D × D)} {ms : List (Key × V)} {kvs : List (D × D)} {ks : List (Key × V)}, RepDK K H μ more ms → RepDK K H μ kvs ks → RepDK K H μ (mergeP kvs more) (mergeK ks ms)
  | _, _, _, _, .nil, R => R
  | _, _, _, _, .cons (l₁ := l) (l₂ := m) h t, R => RepDK.merge (more := l) (ms := m) t (R.put h.1 h.2)
/-- such a dict stands at n -/
inductive dkAt (n : Nat) (S : Sto) (k : List (D × D) → Prop) : Prop
  | mk (kvs : List (D × D)) (h : S[n]? = some (.dkK kvs)) (hk : k kvs)
theorem Sim.dk {n : Nat} {p : Addr} {kvs : List (D × D)} {S : Sto} (s : Sim K H μ S) (h : μ[n]? = some p) (e : S[n]? = some (.dkK kvs)) : ∃ ks, H p = some (.dK ks) ∧ RepDK K H μ kvs ks := s.ob n p _ h e
theorem Sim.newDk {p : Addr} {S : Sto} (s : Sim K H μ S) (hp : H p = none) : Ext K H μ (upd H p (.dK [])) (μ ++ [p]) ∧ Sim K (upd H p (.dK [])) (μ ++ [p]) (S ++ [.dkK []]) ∧ (μ ++ [p])[S.length]? = some p :=
  ⟨Ext.new hp, s.new hp ⟨[], upd_same, .nil⟩, by rw [← s.len]; simp⟩
theorem Sim.setDk {S : Sto} {n : Nat} {p : Addr} {kvs kvs' : List (D × D)} {ks' : List (Key × V)} (s : Sim K H μ S) (h : μ[n]? = some p) (e : S[n]? = some (.dkK kvs)) (r : RepDK K H μ kvs' ks') :
    Ext K H μ (upd H p (.dK ks')) μ ∧ Sim K (upd H p (.dK ks')) μ (S.set n (.dkK kvs')) := by
  have e1 : Ext K H μ (upd H p (.dK ks')) μ := Ext.writeAt s h e rfl
  exact ⟨e1, s.write (o := .dK ks') (ob' := .dkK kvs') h e rfl rfl ⟨ks', upd_same, RepDK.mono e1 r⟩⟩
/-- a leaf key as a machine's key -/
theorem rep_key {d : D} {v : V} (r : Rep K H μ d v) (h : keyB false d = true) : ∃ key, nkD d = some (kN key) ∧ v = kV key := by
  obtain ⟨nk, e1, e2⟩ := keyB_some h
  obtain ⟨key, rfl, rfl⟩ := rep_leaf r e1 e2
  exact ⟨key, e1, rfl⟩
end
/-- the dict that has been made, told anew -/
theorem redic {X : Cx} {pins : List (Addr × Obj)} {σ : L2.St} {H : Hp} {s : Shared} {μ : List Addr} {S : Sto} {n : Nat} {p : Addr} {kvs : List (D × D)} (hw : X.w = PWd.w) (I : Inv X pins σ H s) (sm : Sim X.K H μ S) (h : μ[n]? = some p) (e : S[n]? = some (.dkK kvs)) :
    ∃ ep H', Inv X pins σ H' s ∧ Ext X.K H μ H' μ ∧ Sim X.K H' μ (S.set n (.dic false ep kvs)) := by
  obtain ⟨ks, hp, R⟩ := sm.dk h e
  obtain ⟨z, hs, us, kv, dd⟩ := dk_of I.hok hp
  have RL' := R.rl kv
  obtain ⟨ep, xs, hdp, hkv⟩ := back_leaf (X := X) hw (by rw [paired_len R]; exact z) hs dd RL'
  have I' : Inv X pins σ (upd H p (DicO p ep xs)) { s with heap := s.heap, toks := s.toks } := by
    obtain ⟨o, es, ep0, ho, _⟩ := id dd
    exact d_write I (by rw [hp]; trivial) ⟨rfl, fun b _ => rfl⟩ ⟨_, ho⟩ (dicO_ok hdp)
  have e1 : Ext X.K H μ (upd H p (DicO p ep xs)) μ := Ext.writeAt sm h e rfl
  exact ⟨ep, _, I', e1, sm.write (o := DicO p ep xs) (ob' := .dic false ep kvs) h e rfl rfl ⟨xs, upd_same, hkv.mono e1⟩⟩
abbrev TDP := RX → Ev → Sto → (List (D × D) → Sto → Prop) → Prop
def pNil : TDP := fun _ _ S R => R [] S
def pCons (tk tv : TD) (r : TDP) : TDP := fun Rx ρ S R => tk Rx ρ S fun k S1 => tv Rx ρ S1 fun d S2 => r Rx ρ S2 fun ps S3 => R ((k, d) :: ps) S3
/-- {k: v, ..} -/
def eDisp (t : TDP) : TD := fun Rx ρ S R => t Rx ρ (S ++ [.dkK []]) fun ps S2 => dkAt S.length S2 fun kvs => kvs = [] ∧ ps.length ≤ 15 ∧ (∀ p ∈ ps, keyB false p.1 = true) ∧ ∀ ep, R (.ref S.length) (S2.set S.length (.dic false ep (mergeP [] ps)))
abbrev RepPs (K : PySem.W.Frag) (H : Hp) (μ : List Addr) : List (D × D) → List (V × V) → Prop := Paired fun p q => Rep K H μ p.1 q.1 ∧ Rep K H μ p.2 q.2
/-- the pairs keep their reading -/
structure DPs (X : Cx) (W : WX) (pos : Pos) (keys : List (Option Expr)) (values : List Expr) (t : TDP) : Prop where
  ex : ∃ trs, PPs X pos keys values trs ∧ ∀ σ H ρ μ S (Q : List (V × V) → Hp → Prop) R Rx, At X.K σ H ρ μ S → t Rx ρ S R → OkX X.K H μ Rx (wAt W σ) →
    (∀ ps S' vs μ' H', R ps S' → Ext X.K H μ H' μ' → Sim X.K H' μ' S' → RepPs X.K H' μ' ps vs → Q vs H') → tPairs trs σ H Q
section
variable {X : Cx} {W : WX} {pos : Pos}
theorem dps_nil : DPs X W pos [] [] pNil := ⟨[], pps_nil, fun σ H ρ μ S Q R Rx at_ h ox k => k _ _ _ _ _ h Ext.refl at_.sim .nil⟩
theorem dps_cons {k v : Expr} {ks : List (Option Expr)} {vs : List Expr} {tk tv : TD} {r : TDP} (hk : PE X k (dE X.K W tk)) (hv : PE X v (dE X.K W tv)) (hr : DPs X W pos ks vs r) : DPs X W pos (some k :: ks) (v :: vs) (pCons tk tv r) := by
  obtain ⟨trs, hp, ht⟩ := hr.ex
  refine ⟨_, pps_cons hk hv hp, fun σ H ρ μ S Q R Rx at_ h ox kk => ?_⟩
  refine ⟨ρ, μ, S, _, Rx, at_, h, fun kd S1 kv μ1 H1 h1 e1 s1 r1 => ?_, ox⟩
  refine ⟨ρ, μ1, S1, _, Rx, ⟨at_.env.mono e1, s1⟩, h1, fun dd S2 dv μ2 H2 h2 e2 s2 r2 => ?_, ox.ext e1⟩
  refine ht σ H2 ρ μ2 S2 _ _ Rx ⟨at_.env.mono (e1.trans e2), s2⟩ h2 (ox.ext (e1.trans e2)) fun ps S3 vs μ3 H3 h3 e3 s3 r3 => ?_
  exact kk _ _ _ _ _ h3 ((e1.trans e2).trans e3) s3 (.cons ⟨r1.mono (e2.trans e3), r2.mono e3⟩ r3)
theorem de_disp {keys : List (Option Expr)} {values : List Expr} {t : TDP} (h : DPs X W pos keys values t) (hall : keys.all (·.isSome) = true := by rfl) (hl : keys.length = values.length := by rfl) (h0 : keys ≠ [] := by simp) (h15 : keys.length ≤ 15 := by decide) (hw : X.w = PWd.w := by rfl) :
    PE X (.Dict keys values pos) (dE X.K W (eDisp t)) := by
  obtain ⟨trs, hp, ht⟩ := h.ex
  refine ⟨fun pins s σ H Q I ⟨ρ, μ, S, R, Rx, at_, h, ok, ox⟩ => ?_⟩
  refine thn ((pe_disp hp hall hl h0 h15).run pins s σ H (fun x H1 => ∃ p μ1 S1 kvs, x = .ref p ∧ Ext X.K H μ H1 μ1 ∧ Sim X.K H1 μ1 S1 ∧ μ1[S.length]? = some p ∧ S1[S.length]? = some (.dkK kvs) ∧ ∀ ep, R (.ref S.length) (S1.set S.length (.dic false ep kvs))) I ?_) fun v s1 ⟨x, H1, I1, rx, p, μ1, S1, kvs, ex, e1, sm, hm, hs, hR⟩ => ?_
  · intro p hp'
    obtain ⟨e1, s1, g1⟩ := at_.sim.newDk hp'
    refine ht σ _ ρ _ _ _ _ Rx ⟨at_.env.mono e1, s1⟩ h (ox.ext e1) fun ps S2 vs μ2 H2 h2 e2 s2 r2 => ?_
    cases h2 with | mk kvs hk h2 =>
    obtain ⟨rfl, h15', hkey, hR⟩ := h2
    have g2 := e2.mu _ _ g1
    obtain ⟨ks, hks, RK⟩ := s2.dk g2 hk
    cases RK
    -- the pairs as keys
    have mk : ∀ {ps : List (D × D)} {vs : List (V × V)}, (∀ p ∈ ps, keyB false p.1 = true) → RepPs X.K H2 μ2 ps vs → ∃ ms : List (Key × V), vs = ms.map (fun kv => (kV kv.1, kv.2)) ∧ RepDK X.K H2 μ2 ps ms := by
      intro ps vs hk r
      induction r with
      | nil => exact ⟨[], rfl, .nil⟩
      | @cons p q ps vs r1 _ ih =>
        obtain ⟨ms, e, rm⟩ := ih fun p hp => hk p (List.mem_cons_of_mem _ hp)
        obtain ⟨key, hn, ev⟩ := rep_key r1.1 (hk p List.mem_cons_self)
        refine ⟨(key, q.2) :: ms, ?_, .cons ⟨hn, r1.2⟩ rm⟩
        rw [List.map_cons, ← e, ← ev]
    obtain ⟨ms, ems, rm⟩ := mk hkey r2
    refine ⟨hks, ms, ems, by rw [← paired_len rm]; exact h15', ?_⟩
    obtain ⟨e3, s3⟩ := s2.setDk g2 hk (RepDK.merge rm .nil)
    exact ⟨p, μ2, _, _, rfl, (e1.trans e2).trans e3, s3, g2, by rw [List.getElem?_set_self (lt_of_get hk)], fun ep => by rw [List.set_set]; exact hR ep⟩
  · subst ex
    obtain ⟨ep, H2, I2, e2, s2⟩ := redic hw I1 sm hm hs
    exact ⟨.ref p, H2, I2, rx, ok _ _ _ _ _ (hR ep) (e1.trans e2) s2 (.ref hm)⟩
end
/-- {k: v for ..} -/
def dcW (n : Nat) (G : Sto → Prop) (g : TDG) (tt : TDT) (tk tv : TD) (ρ : Ev) (R : List (D × D) → Sto → Prop) : List D → Sto → Prop
  | [], S => G S ∧ dkAt n S fun kvs => R kvs S
  | x :: r, S => G S ∧ g x ρ S fun ρ1 S1 => tt noX ρ1 S1 fun b S2 => ift b (tk noX ρ1 S2 fun k S3 => tv noX ρ1 S3 fun d S4 => dkAt n S4 fun kvs => kvs.length < sizeLine ∧ keyB false k = true ∧ dcW n G g tt tk tv ρ R r (S4.set n (.dkK (putP kvs k d)))) (dcW n G g tt tk tv ρ R r S2)
def eDC (it : TDI) (g : TDG) (tt : TDT) (tk tv : TD) (vs : List Nat) : TD := fun Rx ρ S R => it Rx ρ S fun xs G S1 => dcW S1.length G g tt tk tv (wipeD ρ vs) (fun kvs S2 => ∀ ep, R (.ref S1.length) (S2.set S1.length (.dic false ep kvs))) xs (S1 ++ [.dkK []])
section
theorem dc_it {J : It} {n : Nat} {G : Hp → Prop} {Y : Nat → Hp → V → Hp → Prop} (w : Walk J n G Y) {g : TG} {tt : TT} {tk tv : TE} {vs : List Nat} {σ : L2.St} {H1 : Hp} {D : Addr} {Qd : Hp → Prop} (Pv : Nat → Hp → Prop) (h0 : Pv 0 (upd H1 D (.dK []))) (hG : ∀ i H, i ≤ n → Pv i H → G H)
    (hs : ∀ i x H H', i < n → Pv i H → Y i H x H' → g x (wipe σ vs) H' fun σ2 H2 => wipe σ2 vs = wipe σ vs ∧ tt σ2 H2 fun b H3 =>
      if b = true then tk σ2 H3 fun y H4 => tv σ2 H4 fun z H5 => ∃ kvs k, y = kV k ∧ H5 D = some (.dK kvs) ∧ kvs.length < sizeLine ∧ Pv (i + 1) (upd H5 D (.dK (putK kvs k z))) else Pv (i + 1) H3) (hd : ∀ H, Pv n H → Qd H) :
    ∃ W : Nat → Nat → Hp → Prop, (∃ m, W 0 m (upd H1 D (.dK []))) ∧ ∀ i m H, W i m H →
      (J.stop i H ∧ Qd H) ∨ (J.go i H ∧ ∃ Nx : Hp → Prop, (∀ H', Nx H' → ∃ m', m' < m ∧ W (i + 1) m' H') ∧ ∀ x H', J.yld i H x H' → g x (wipe σ vs) H' fun σ2 H2 => wipe σ2 vs = wipe σ vs ∧ tt σ2 H2 fun b H3 =>
        if b = true then tk σ2 H3 fun y H4 => tv σ2 H4 fun z H5 => ∃ kvs k, y = kV k ∧ H5 D = some (.dK kvs) ∧ kvs.length < sizeLine ∧ Nx (upd H5 D (.dK (putK kvs k z))) else Nx H3) := by
  refine ⟨fun i m H => m = n - i ∧ i ≤ n ∧ Pv i H, ⟨n, by simp, Nat.zero_le _, h0⟩, ?_⟩
  rintro i m H ⟨rfl, hi, p⟩
  have q := hG i H hi p
  by_cases hlt : i < n
  · refine .inr ⟨w.goes i H hlt q, Pv (i + 1), fun H' p' => ⟨n - (i + 1), by omega, rfl, hlt, p'⟩, fun x H' y => hs i x H H' hlt p (w.yields i H x H' hlt q y)⟩
  · have e : i = n := by omega
    subst e
    exact .inl ⟨w.stops H q, hd H p⟩
variable {X : Cx} {W : WX} {pos : Pos} {kx vx tg iter : Expr} {ifs : List Expr} {scope : Scope} {own : List (Str × Nat)} {it : TDI} {g : TDG} {tt : TDT} {tk tv : TD}
/-- how the made dict stands -/
def MadeD (K : PySem.W.Frag) (H : Hp) (μ : List Addr) (R : RD) (x : V) (H' : Hp) : Prop := ∃ p n μ1 S1 kvs, x = .ref p ∧ Ext K H μ H' μ1 ∧ Sim K H' μ1 S1 ∧ μ1[n]? = some p ∧ S1[n]? = some (.dkK kvs) ∧ ∀ ep, R (.ref n) (S1.set n (.dic false ep kvs))
theorem dc_step {vs : List Nat} {σ : L2.St} {H : Hp} {ρ : Ev} {μ : List Addr} {S : Sto} {R : RD} {Rx : RX} (at_ : At X.K σ H ρ μ S) (h : eDC it g tt tk tv vs Rx ρ S R) (ox : OkX X.K H μ Rx (wAt W σ)) (W0 : WX) {Q : VK} (hQ : ∀ x H', MadeD X.K H μ R x H' → Q x H') :
    tDc (dI X.K W it) (dG X.K vs g) (dT X.K W0 tt) (dE X.K W0 tk) (dE X.K W0 tv) vs σ H Q := by
  refine ⟨ρ, μ, S, _, Rx, at_, h, ox, fun xs G S1 μ1 H1 J h1 e1 s1 hw Dp hD => ?_⟩
  obtain ⟨Gv, Y, w, hG, hY⟩ := hw
  obtain ⟨e2, s2, g2⟩ := s1.newDk hD
  have nX : ∀ (H' : Hp) (μ' : List Addr) σ', OkX X.K H' μ' noX (wAt W0 σ') := fun _ _ _ _ _ _ _ _ _ z => False.elim z
  refine dc_it w (fun i H' => ∃ μ' S', Ext X.K (upd H1 Dp (.dK [])) (μ1 ++ [Dp]) H' μ' ∧ Sim X.K H' μ' S' ∧ dcW S1.length G g tt tk tv (wipeD ρ vs) (fun kvs S2 => ∀ ep, R (.ref S1.length) (S2.set S1.length (.dic false ep kvs))) (xs.drop i) S') ⟨_, _, Ext.refl, s2, by rw [List.drop_zero]; exact h1⟩ ?_ ?_ ?_
  · rintro i H' hi ⟨μ', S', e', a', hf⟩
    refine hG H' μ' S' (e2.trans e') a' ?_
    cases hd : xs.drop i with
    | nil => rw [hd] at hf; exact hf.1
    | cons x r => rw [hd] at hf; exact hf.1
  · rintro i v H' H'' hi ⟨μ', S', e', a', hf⟩ hy
    have hd : xs[i]? = some xs[i] := List.getElem?_eq_getElem hi
    rw [List.drop_eq_getElem_cons hi] at hf
    obtain ⟨hGS, hf⟩ := hf
    obtain ⟨e3, s3, r3⟩ := hY i v H' H'' μ' S' xs[i] (e2.trans e') a' hGS hd hy
    have env0 := ((at_.env.mono e1).mono (e2.trans (e'.trans e3))).wipe vs
    refine ⟨wipeD ρ vs, μ', S', _, _, ⟨env0, s3⟩, r3, hf, fun ρ4 S4 σ4 μ4 H4 h4 w4 e4 a4 => ?_⟩
    have hwipe : wipe σ4 vs = wipe σ vs := by
      rw [w4]
      have idem : ∀ (l : List Nat) (τ : L2.St), (∀ i ∈ l, i ∈ vs) → wipe (wipe τ l) vs = wipe τ vs := by
        intro l
        induction l with
        | nil => intro τ _; rfl
        | cons x l ih =>
          intro τ hl
          show wipe ((wipe τ l).set x none) vs = _
          rw [wipe_set (hl x (by simp))]
          exact ih τ fun i hi => hl i (by simp [hi])
      exact idem vs σ fun _ h => h
    refine ⟨hwipe, ρ4, μ4, S4, _, _, a4, h4, fun b S5 μ5 H5 h5 e5 s5 => ?_, nX _ _ _⟩
    have e05 := e'.trans (e3.trans (e4.trans e5))
    cases b with
    | false => exact ⟨μ5, S5, e05, s5, ift_f h5⟩
    | true =>
      replace h5 := ift_t h5
      refine ⟨ρ4, μ5, S5, _, _, ⟨a4.env.mono e5, s5⟩, h5, fun kd S6 kv μ6 H6 h6 e6 s6 r6 => ?_, nX _ _ _⟩
      refine ⟨ρ4, μ6, S6, _, _, ⟨a4.env.mono (e5.trans e6), s6⟩, h6, fun dd S7 dv μ7 H7 h7 e7 s7 r7 => ?_, nX _ _ _⟩
      cases h7 with | mk kvs hk h7 =>
      obtain ⟨hz, hkey, h7⟩ := h7
      have e07 := e05.trans (e6.trans e7)
      have gD : μ7[S1.length]? = some Dp := e07.mu _ _ g2
      obtain ⟨ks, hks, RK⟩ := s7.dk gD hk
      obtain ⟨key, hn, ev⟩ := rep_key (r6.mono e7) hkey
      obtain ⟨e8, s8⟩ := s7.setDk gD hk (RK.put hn r7)
      exact ⟨ks, key, ev, hks, by rw [← paired_len RK]; exact hz, μ7, _, e07.trans e8, s8, h7⟩
  · rintro H' ⟨μ', S', e', a', hf⟩
    rw [List.drop_length] at hf
    obtain ⟨_, hf⟩ := hf
    cases hf with | mk kvs hk hf =>
    exact hQ _ _ ⟨Dp, S1.length, μ', S', kvs, rfl, e1.trans (e2.trans e'), a', e'.mu _ _ g2, hk, hf⟩
theorem made_end {pins : List (Addr × Obj)} {s : Shared} {σ : L2.St} {H : Hp} {μ : List Addr} {R : RD} {Q : VK} {v : Value} (hw : X.w = PWd.w) (ok : OkV X.K H μ R Q) (h : EP X pins σ (MadeD X.K H μ R) v s) : EP X pins σ Q v s := by
  obtain ⟨x, H1, I1, rx, p, n, μ1, S1, kvs, ex, e1, sm, hm, hs, hR⟩ := h
  subst ex
  obtain ⟨ep, H2, I2, e2, s2⟩ := redic hw I1 sm hm hs
  exact ⟨.ref p, H2, I2, rx, ok _ _ _ _ _ (hR ep) (e1.trans e2) s2 (.ref hm)⟩
theorem de_dc (hc : X.calm = true) (hN : X.N.Nodup) (ok : blkC X.N X.env.scope scope own = true) (hi : PI X tg iter (dI X.K W it))
    (hg : ∀ (s : Shared) (H : Hp) (C : Addr) (cl : List (Str × Addr)) (fp : List Addr), PG (X.blk s H scope (compEnvC scope cl C X.env) fp) tg (dG X.K (own.map (·.2)) g))
    (ht : ∀ (s : Shared) (H : Hp) (C : Addr) (cl : List (Str × Addr)) (fp : List Addr), PTs (X.blk s H scope (compEnvC scope cl C X.env) fp) ifs (dT X.K W0 tt))
    (hk : ∀ (s : Shared) (H : Hp) (C : Addr) (cl : List (Str × Addr)) (fp : List Addr), PE (X.blk s H scope (compEnvC scope cl C X.env) fp) kx (dE X.K W0 tk))
    (he : ∀ (s : Shared) (H : Hp) (C : Addr) (cl : List (Str × Addr)) (fp : List Addr), PE (X.blk s H scope (compEnvC scope cl C X.env) fp) vx (dE X.K W0 tv)) (hs : ∀ x, foldedSetIterable iter X.env x = pure x := by intro _; rfl) (hw : X.w = PWd.w := by rfl) :
    PE X (.DictComp kx vx [⟨tg, iter, ifs, 0⟩] scope pos) (dE X.K W (eDC it g tt tk tv (own.map (·.2)))) := by
  refine ⟨fun pins s σ H Q I ⟨ρ, μ, S, R, Rx, at_, h, okv, ox⟩ => ?_⟩
  exact thn ((pe_dc hc hN hi (blkOk_by ok) hg ht hk he hs).run pins s σ H _ I (dc_step at_ h ox W0 fun _ _ z => z)) fun v s1 z => made_end hw okv z
end
end DL
namespace DL
open PySem PySem.Spec PyProof.Rows L2
variable [PWd]
section
variable {X : Cx} {W : WX} {pos : Pos} {kx vx tg iter : Expr} {ifs : List Expr} {scope : Scope} {own : List (Str × Nat)} {it : TDI} {g : TDG} {tt : TDT} {tk tv : TD}
theorem sw_trueD {gs : List Comprehension} {scope : Scope} {pos py : Pos} {y : Str} {l : Nat} {env : Env} (hk : env.scope.kind = .function) (hy : env.scope.names.lookup y = some .local) (hl : (py.line == pos.line) = true)
    (ha : (scope.names.any fun (n, k) => n == y && (k == .local || k == .cell)) = false) : swapsWith (.DictComp kx vx gs scope pos) (some (.Name y py)) l env = pure true := by
  have ky : env.kindOf y = some .local := hy
  have hb : env.blockKind = .function := by unfold Env.blockKind; rw [hk]; rfl
  unfold swapsWith
  simp only [hb, ky, ha, Expr.pos, hl]
  rfl
theorem ps_setDc {i : Nat} {y : Str} {py spos : Pos} {wi : TI} {g : TG} {tt : TT} {tk tv : TE} (hc : X.calm = true) (hN : X.N.Nodup) (hy : X.N[i]? = some y) (hyl : X.env.scope.names.lookup y = some .local)
    (hsw : swapsWith (.DictComp kx vx [⟨tg, iter, ifs, 0⟩] scope pos) (some (.Name y py)) spos.line X.env = pure true) (hi : PI X tg iter wi) (ok : BlkOk X.N X.env.scope scope own)
    (hg : ∀ (s : Shared) (H : Hp) (C : Addr) (cl : List (Str × Addr)) (fp : List Addr), PG (X.blk s H scope (compEnvC scope cl C X.env) fp) tg g) (ht : ∀ (s : Shared) (H : Hp) (C : Addr) (cl : List (Str × Addr)) (fp : List Addr), PTs (X.blk s H scope (compEnvC scope cl C X.env) fp) ifs tt)
    (hk : ∀ (s : Shared) (H : Hp) (C : Addr) (cl : List (Str × Addr)) (fp : List Addr), PE (X.blk s H scope (compEnvC scope cl C X.env) fp) kx tk)
    (he : ∀ (s : Shared) (H : Hp) (C : Addr) (cl : List (Str × Addr)) (fp : List Addr), PE (X.blk s H scope (compEnvC scope cl C X.env) fp) vx tv) (hs : ∀ x, foldedSetIterable iter X.env x = pure x := by intro _; rfl) :
    PS X (.Assign [.Name y py] (.DictComp kx vx [⟨tg, iter, ifs, 0⟩] scope pos) spos) (tAsg (tDc wi g tt tk tv (own.map (·.2))) (gName i)) := by
  refine ⟨fun pins s σ H D I h => ?_⟩
  rw [exec_Assign_Name_used _ _ _ _ hsw]
  refine wpAny_bind (wpAny_standAt (wpAny_bind ?_))
  show wpAny _ X.A (do let _ ← comprehension (.DictComp kx vx [⟨tg, iter, ifs, 0⟩] scope pos) scope X.env (firstIterPos [⟨tg, iter, ifs, 0⟩] pos) newDict false (eval iter X.env) (some (assign (.Name y py) X.env))) _ _ s
  have h : tDc wi g tt tk tv (own.map (·.2)) σ H (fun x H1 => gName i x σ H1 D.nx) := h
  refine wpAny_bind (thn (dc_core (Qf := fun _ s' => SP X pins D .next s') hc hN I hi ok hg ht hk he hs h fun L C s' m H' I' q hn f => ?_) fun _ s' hq => wpAny_pure (wpAny_pure hq))
  show wpAny _ _ (assign (.Name y py) X.env (.ref L)) _ _ _
  refine wpAny_assign_Name (store_ok2 (v := V.ref L) I' hN hy (.inl hyl) rfl (fun s2 I2 ⟨a, sb, ha⟩ => ?_) (.inr hyl))
  obtain ⟨f0, f1, f2, f3, f4, f5⟩ := f
  have haC : C ≠ a := by
    rcases ha with z | z
    · rw [z]; exact f1
    · exact fun e => f4 y a z e.symm
  refine ⟨m, hn.sameBut sb haC, fun h3 sb3 => ?_⟩
  exact ⟨_, H', I2.turned (t' := s2.toks) (fun b o hb e => (sb3.2 b hb).trans e) f0 f1 f3 f4 f5, q⟩
theorem ds_setDc {i : Nat} {y : Str} {py spos : Pos} (hc : X.calm = true) (hN : X.N.Nodup) (ok : blkC X.N X.env.scope scope own = true)
    (ha : (scope.names.any fun (n, k) => n == y && (k == .local || k == .cell)) = false) (hi : PI X tg iter (dI X.K W it))
    (hg : ∀ (s : Shared) (H : Hp) (C : Addr) (cl : List (Str × Addr)) (fp : List Addr), PG (X.blk s H scope (compEnvC scope cl C X.env) fp) tg (dG X.K (own.map (·.2)) g))
    (ht : ∀ (s : Shared) (H : Hp) (C : Addr) (cl : List (Str × Addr)) (fp : List Addr), PTs (X.blk s H scope (compEnvC scope cl C X.env) fp) ifs (dT X.K W0 tt))
    (hk : ∀ (s : Shared) (H : Hp) (C : Addr) (cl : List (Str × Addr)) (fp : List Addr), PE (X.blk s H scope (compEnvC scope cl C X.env) fp) kx (dE X.K W0 tk))
    (he : ∀ (s : Shared) (H : Hp) (C : Addr) (cl : List (Str × Addr)) (fp : List Addr), PE (X.blk s H scope (compEnvC scope cl C X.env) fp) vx (dE X.K W0 tv))
    (hy : X.N[i]? = some y := by rfl) (hyl : X.env.scope.names.lookup y = some .local := by rfl) (hkn : X.env.scope.kind = .function := by rfl) (hl : (py.line == pos.line) = true := by rfl) (hs : ∀ x, foldedSetIterable iter X.env x = pure x := by intro _; rfl) (hw : X.w = PWd.w := by rfl) :
    PS X (.Assign [.Name y py] (.DictComp kx vx [⟨tg, iter, ifs, 0⟩] scope pos) spos) (dS X.K W (sSet i (eDC it g tt tk tv (own.map (·.2))))) := by
  refine ⟨fun pins s σ H Z I ⟨ρ, μ, S, E, at_, h, k⟩ => ?_⟩
  refine thn ((ps_setDc hc hN hy hyl (sw_trueD hkn hyl hl ha) hi (blkOk_by ok) hg ht hk he hs).run pins s σ H { Z with nx := fun σ' H' => ∃ x, σ' = σ.set i (some x) ∧ MadeD X.K H μ (fun d S1 => E.nx (ρ.set i (some d)) S1) x H' } I ?_) fun f s1 z => ?_
  · exact dc_step (W := W) (W0 := W0) (R := fun d S1 => E.nx (ρ.set i (some d)) S1) at_ h (k.x at_.env) fun x H' hx => ⟨x, rfl, hx⟩
  · cases f with
    | next =>
      obtain ⟨σ', H1, I1, x, rfl, p, n, μ1, S1, kvs, rfl, e1, sm, hm, hs', hR⟩ := z
      obtain ⟨ep, H2, I2, e2, s2⟩ := redic hw I1 sm hm hs'
      exact ⟨_, H2, I2, k.nx _ _ _ _ _ (hR ep) (e1.trans e2) ⟨(at_.env.mono (e1.trans e2)).set (.ref hm) i, s2⟩⟩
    | ret v => exact z
    | brk => exact z
    | cont => exact z
end

/-! ### Class(k = v, ..) -/
def eMakeK (c : Str) (sp : DSp) (π : List Nat) (tk : TDA) : TD := fun Rx ρ S R => tk Rx ρ S fun zs S1 => Cal sp (.ref S1.length :: pick π zs) (S1 ++ [.ins c []]) (fun d S2 => d = .non ∧ R (.ref S1.length) S2) noX
/-- a class's __init__ with its text -/
structure MakOkS (P : Program) (w : World) (K : PySem.W.Frag) (mg : Str → Option Value) (base : Heap) (x q : Str) (st : Stmt) (k : Nat) (ps : List Str) (n : Nat) (sp : DSp) : Prop where
  ex : ∃ f fd, Mk K (He.ga K x) f ∧ FnOk P w K mg base (L2.CX P w) k f fd ps (dSp K n sp) ∧ L2.Binds K fd ps [] ∧ FunD K "__init__" q (defArgs st) (defBody st) (defScope st) [] [] f fd
  gm : mg x = some (.ref (He.ga K x))
theorem MakOkS.to {P : Program} {w : World} {K : PySem.W.Frag} {mg : Str → Option Value} {base : Heap} {x q : Str} {st : Stmt} {k : Nat} {ps : List Str} {n : Nat} {sp : DSp} (h : MakOkS P w K mg base x q st k ps n sp) : MakOk P w K mg base x k ps n sp := by
  obtain ⟨⟨f, fd, m, F, b, _⟩, g⟩ := h
  exact ⟨⟨f, fd, m, F, b⟩, g⟩
theorem Tx.makS {fa : List He.Fa} {fn : List He.DefD} {cs : List CS} {K : PySem.W.Frag} {mg : Str → Option Value} {P : Program} {w : World} {base : Heap} (T : Tx fa fn cs K mg) {c q : Str} {st : Stmt} {k n m : Nat} {N ps : List Str} {t : TDS} (gm : mg c = some (.ref (He.ga K c))) (mk : Mk K (He.ga K c) (He.ma K (He.ga K c) "__init__"))
    (i : Nat) (hi : fn[i]? = some ⟨(c, some "__init__"), "__init__", q, defArgs st, defBody st, defScope st, [], []⟩)
    (sc : FnScope N ps (defScope st)) (hn : ps.length = n) (hm : N.length = m)
    (hbind : ∀ (kV doc pm : Value) (an : Option Addr) (cdv ct : Value) (us : List Value), us.length = ps.length → bindArgs (PySem.W.fnOf "__init__" q (defArgs st) (defBody st) (defScope st) .none kV doc pm an cdv ct) ⟨us, []⟩ = pure (ps.zip us))
    (hb : ∀ (cdv : Value) (A : Around) (outer : List Env) (s : Shared) (H : Hp) (E : XK), Room k (A.deeper (envOfC q (defScope st) s.heap.objs.size (He.ma K (He.ga K c) "__init__") cdv)) →
      PSs (cxOf (L2.CX P w) P w K mg base N q (defScope st) (He.ma K (He.ga K c) "__init__") cdv A outer s H E) (defBody st) (dS K (fun cls d _ H' => E cls d H') t)) : MakOkS P w K mg base c q st (k + 1) ps n (wOf m t) := by
  obtain ⟨_, X, G, cc⟩ := T.ex
  obtain ⟨fd, F⟩ := cc.d.def_ i hi
  have F' : FunD K "__init__" q (defArgs st) (defBody st) (defScope st) [] [] (He.ma K (He.ga K c) "__init__") fd := F
  exact ⟨⟨_, fd, mk, FunD.okD F' sc hn hm hb, F'.bindsN hbind, F'⟩, gm⟩
theorem vals_pick1 {u : V} {x : Value} {zs : List V} {ws : List Value} (h : RelV u x) (r : Vals zs ws) (π : List Nat) : Vals (u :: pick π zs) (x :: pick π ws) := .cons h (vals_pick r π)
section
variable {X : Cx} {W : WX}
theorem de_makeK {c q : Str} {st : Stmt} {k m : Nat} {ps ks : List Str} {π : List Nat} {sp : DSp} {tk : TDA} {p pos : Pos} {kws : List Keyword} (G : MakOkS X.prog X.w X.K X.mg X.base c q st k ps (m + 1) sp) (hr : Room (k + 1) X.A)
    (hb : ∀ (kV doc pm : Value) (an : Option Addr) (cdv ct : Value) (u : Value) (ws : List Value), ws.length = ks.length → bindArgs (PySem.W.fnOf "__init__" q (defArgs st) (defBody st) (defScope st) .none kV doc pm an cdv ct) ⟨[u], ks.zip ws⟩ = pure (ps.zip (u :: pick π ws)))
    (hN : π.length = m) (hπ : ∀ i ∈ π, i < ks.length) (hkw : PK X kws (dA X.K W ks.length tk)) (hg : Gl X c := by rfl)
    (hall : (backToKw pos (keywordEach kws X.env)).all (·.1.isSome) = true := by rfl) (hks : (backToKw pos (keywordEach kws X.env)).filterMap (·.1) = ks := by rfl) (hdb : (c == ("__debug__" : Str)) = false := by decide)
    (hpl : ((backTo pos (starEach [] X.env)).any (·.1) || (backToKw pos (keywordEach kws X.env)).any (·.1.isNone)) = false := by rfl) :
    PE X (.Call (.Name c p) [] kws pos) (dE X.K W (eMakeK c sp π tk)) := by
  obtain ⟨f, fd, M, F, _, D⟩ := G.ex
  obtain ⟨oc, od, dV, kV, doc, pm, an, cdv, ct, osl, rfl, lk, hcd, hD, hK⟩ := D.ex
  have kb : KBn X.K (PySem.W.fnOf "__init__" q (defArgs st) (defBody st) (defScope st) dV kV doc pm an cdv ct) ps 1 ks (fun us ws => us ++ pick π ws) (fun vs zs => vs ++ pick π zs) := by
    rcases hD with ⟨_, rfl⟩ | ⟨e, _⟩
    · refine ⟨fun s us ws _ l1 l2 => .of_eq ?_, fun r1 r2 => r1.append (vals_pick r2 π)⟩
      match us, l1 with
      | [u], _ => exact hb kV doc pm an cdv ct u ws l2
    · exact absurd rfl e
  refine (pe_makeK0 (CX := L2.CX X.prog X.w) (E := fun _ _ _ => False) M F hr hg G.gm kb passL hkw hall hks hdb hpl).imp fun σ H Q ⟨ρ, μ, S, R, Rx, at_, h, ok, ox⟩ => ?_
  show dA X.K W ks.length tk σ H _
  refine ⟨ρ, μ, S, _, Rx, at_, h, fun xs S1 vs μ1 H1 l1 h1 e1 s1 r1 => ⟨rfl, by rw [← r1.length, l1], fun x dx hx hdx hne => ?_⟩, ox⟩
  obtain ⟨e2, s2, r2⟩ := s1.newIns (c := c) hx hdx hne
  have rr : Reps X.K (upd (upd H1 dx (.own x)) x (.ins (He.ga X.K c) dx [])) (μ1 ++ [x]) (.ref S1.length :: pick π xs) ([V.ref x] ++ pick π vs) := .cons r2 ((r1.mono e2).pick π)
  refine ⟨_, _, _, _, noX, s2, rr, by rw [List.length_cons, pick_length fun i hi => by rw [l1]; exact hπ i hi, hN], h1.out, fun d S' v μ' H' hq e3 s3 r3 => ?_, fun _ _ _ _ _ _ h => h.elim⟩
  obtain ⟨rfl, hq⟩ := hq
  cases r3
  exact ⟨rfl, ok _ _ _ _ _ hq ((e1.trans e2).trans e3) s3 (r2.mono e3)⟩
end
end DL
namespace DL
open PySem PySem.Spec PyProof.Rows L2
variable [PWd]
theorem eqOk_mk {K : PySem.W.Frag} {cls : List Str} {c : Str} (h : ∀ d ∈ cls, InsK K d ∧ Cls K (He.ga K d) ∧ PySem.W.notFirst K (He.ga K c) (.ref (He.ga K d)) = true)
    (h0 : PySem.W.notFirst K (He.ga K c) (.type "NoneType") = true) (h1 : PySem.W.notFirst K (He.ga K c) (.type "bool") = true) (h2 : PySem.W.notFirst K (He.ga K c) (.type "int") = true) (h3 : PySem.W.notFirst K (He.ga K c) (.type "str") = true)
    (h4 : PySem.W.notFirst K (He.ga K c) (.type "tuple") = true) (h5 : PySem.W.notFirst K (He.ga K c) (.type "list") = true)
    (fd : PySem.W.findIn K (.ref (He.ga K c)) "__eq__" = some (some (.ref (He.ma K (He.ga K c) "__eq__"))) ∧ PySem.W.isFn K (.ref (He.ma K (He.ga K c) "__eq__")) = true) : EqOk K cls c := by
  refine ⟨h, fun k hk => ?_, fd⟩
  have hk' : k = 0 ∨ k = 1 ∨ k = 2 ∨ k = 3 ∨ k = 4 ∨ k = 5 := by omega
  rcases hk' with rfl | rfl | rfl | rfl | rfl | rfl
  · exact h0
  · exact h1
  · exact h2
  · exact h3
  · exact h4
  · exact h5
theorem allH_nil {p : HD → Prop} : ∀ h ∈ ([] : List HD), p h := fun h hh => by cases hh
theorem allH_cons {p : HD → Prop} {h : HD} {r : List HD} (h1 : p h) (h2 : ∀ h ∈ r, p h) : ∀ d ∈ h :: r, p d := fun d hd => by
  rcases List.mem_cons.mp hd with rfl | hd
  · exact h1
  · exact h2 d hd
end DL
namespace K02
open PySem PySem.Spec PyProof.Rows L2 DL
/-! ### the text by places, readings (printed by gen.py) -/
def topS (i : Nat) : Stmt := PySem.Challenge.pw_cheapathand_k02_priced_books_are_let_or.main.body.getD i (.Pass ⟨0, 0, 0, 0⟩)
def c_SMALL : D := .str "abcdefghijklmnopqrstuvwxyz"
def c_MOST_SIGNS : D := .int 8
def c_VARIABLE : D := .int (-1)
abbrev s_InvalidBook_init : Stmt := L2.inClass (topS 2) 0

abbrev s_is_integer : Stmt := topS 6
def t_is_integer : TDS :=
  (sRet (eAnd (e1 (isiG ["Book", "PricedBook"] (.inl 2)) (eVar 0)) (eNot (e1 (isiG ["Book", "PricedBook"] (.inl 1)) (eVar 0)))))
@[irreducible] def w_is_integer : DSp := wOf 1 t_is_integer
theorem w_is_integer_eq : w_is_integer = wOf 1 t_is_integer := by unfold w_is_integer; rfl

abbrev s_is_number : Stmt := topS 7
def t_is_number : TDS :=
  (sRet (eAnd (eCall w_is_integer (aCons (eVar 0) aNil)) (e2 geD (eVar 0) (eC (.int 0)))))
@[irreducible] def w_is_number : DSp := wOf 1 t_is_number
theorem w_is_number_eq : w_is_number = wOf 1 t_is_number := by unfold w_is_number; rfl

abbrev s_are_small : Stmt := topS 8
def q1_are_small : TDT :=
  (tTru (e2 (inD false) (eVar 1) (eC c_SMALL)))
def v1_are_small : TD :=
  (eVar 1)
def t_are_small : TDS :=
  (sRet (e2 eqA (eLC (iSeq (eVar 0)) (gNm 1) q1_are_small v1_are_small [1]) (eLst aNil)))
@[irreducible] def w_are_small : DSp := wOf 2 t_are_small
theorem w_are_small_eq : w_are_small = wOf 2 t_are_small := by unfold w_are_small; rfl

abbrev s_is_name : Stmt := topS 9
def t_is_name : TDS :=
  (sRet (eAnd (e1 (isiG ["Book", "PricedBook"] (.inl 3)) (eVar 0)) (eAnd (eChain ltD leD (eC (.int 0)) (eB lenD (aCons (eVar 0) aNil)) (eC c_MOST_SIGNS)) (eCall w_are_small (aCons (eVar 0) aNil)))))
@[irreducible] def w_is_name : DSp := wOf 1 t_is_name
theorem w_is_name_eq : w_is_name = wOf 1 t_is_name := by unfold w_is_name; rfl

abbrev s_is_tuple : Stmt := topS 10
def t_is_tuple : TDS :=
  (sRet (eAnd (e1 (isiG ["Book", "PricedBook"] (.inl 4)) (eVar 0)) (e2 eqA (eB lenD (aCons (eVar 0) aNil)) (eVar 1))))
@[irreducible] def w_is_tuple : DSp := wOf 2 t_is_tuple
theorem w_is_tuple_eq : w_is_tuple = wOf 2 t_is_tuple := by unfold w_is_tuple; rfl

abbrev s_common_divisor : Stmt := topS 32
def c1_common_divisor : TDT :=
  (tTru (e2 neA (eVar 1) (eC (.int 0))))
def b1_common_divisor : TDS :=
  (sPar 0 1 (aCons (eVar 1) (aCons (e2 modD (eVar 0) (eVar 1)) aNil)))
def t_common_divisor : TDS :=
  (sSeq (sPar 0 1 (aCons (eB absD (aCons (eVar 0) aNil)) (aCons (eB absD (aCons (eVar 1) aNil)) aNil)))
  (sSeq (sWhile c1_common_divisor b1_common_divisor)
  (sRet (eVar 0))))
@[irreducible] def w_common_divisor : DSp := wOf 2 t_common_divisor
theorem w_common_divisor_eq : w_common_divisor = wOf 2 t_common_divisor := by unfold w_common_divisor; rfl

abbrev s_is_fraction : Stmt := topS 33
def t_is_fraction : TDS :=
  (sSeq (sIf (tOrD (tNotD (tTru (eCall w_is_tuple (aCons (eVar 0) (aCons (eC (.int 2)) aNil))))) (tOrD (tNotD (tTru (eCall w_is_integer (aCons (e2 ixD (eVar 0) (eC (.int 0))) aNil)))) (tNotD (tTru (eCall w_is_integer (aCons (e2 ixD (eVar 0) (eC (.int 1))) aNil))))))
  (sRet (eC (.bl false)))
  sNext)
  (sRet (eAnd (e2 geD (e2 ixD (eVar 0) (eC (.int 1))) (eC (.int 1))) (e2 eqA (eCall w_common_divisor (aCons (e2 ixD (eVar 0) (eC (.int 0))) (aCons (e2 ixD (eVar 0) (eC (.int 1))) aNil))) (eC (.int 1))))))
@[irreducible] def w_is_fraction : DSp := wOf 1 t_is_fraction
theorem w_is_fraction_eq : w_is_fraction = wOf 1 t_is_fraction := by unfold w_is_fraction; rfl

abbrev s_is_price : Stmt := topS 35
def t_is_price : TDS :=
  (sRet (eAnd (eCall w_is_fraction (aCons (eVar 0) aNil)) (e2 geD (e2 ixD (eVar 0) (eC (.int 0))) (eC (.int 0)))))
@[irreducible] def w_is_price : DSp := wOf 1 t_is_price
theorem w_is_price_eq : w_is_price = wOf 1 t_is_price := by unfold w_is_price; rfl

abbrev s_is_placed : Stmt := topS 21
def t_is_placed : TDS :=
  (sRet (eAnd (eCall w_is_tuple (aCons (eVar 0) (aCons (eC (.int 2)) aNil))) (eAnd (eCall w_is_name (aCons (e2 ixD (eVar 0) (eC (.int 0))) aNil)) (eCall w_is_number (aCons (e2 ixD (eVar 0) (eC (.int 1))) aNil)))))
@[irreducible] def w_is_placed : DSp := wOf 1 t_is_placed
theorem w_is_placed_eq : w_is_placed = wOf 1 t_is_placed := by unfold w_is_placed; rfl

abbrev s_first_wrong : Stmt := topS 11
def f1_first_wrong : TDS :=
  (sIf (tNotD (tTru (eCallF 1 [("is_price", w_is_price), ("is_placed", w_is_placed)] (aCons (eVar 3) aNil))))
  (sRet (eVar 2))
  sNext)
def t_first_wrong : TDS :=
  (sSeq (sFor (iEnum (eVar 0)) (gTp 2 (gsCons (gNm 2) (gsCons (gNm 3) gsNil))) f1_first_wrong)
  (sRet (e1 negD (eC (.int 1)))))
@[irreducible] def w_first_wrong : DSp := wOf 4 t_first_wrong
theorem w_first_wrong_eq : w_first_wrong = wOf 4 t_first_wrong := by unfold w_first_wrong; rfl

abbrev s_is_tuple_of : Stmt := topS 12
def t_is_tuple_of : TDS :=
  (sRet (eAnd (e1 (isiG ["Book", "PricedBook"] (.inl 4)) (eVar 0)) (e2 ltD (eCall w_first_wrong (aCons (eVar 0) (aCons (eVar 1) aNil))) (eC (.int 0)))))
@[irreducible] def w_is_tuple_of : DSp := wOf 2 t_is_tuple_of
theorem w_is_tuple_of_eq : w_is_tuple_of = wOf 2 t_is_tuple_of := by unfold w_is_tuple_of; rfl

abbrev s_is_ascending : Stmt := topS 13
def f1_is_ascending : TDS :=
  (sIf (tNotD (tTru (e2 ltD (e2 ixD (eVar 0) (eVar 1)) (e2 ixD (eVar 0) (e2 addD (eVar 1) (eC (.int 1)))))))
  (sRet (eC (.bl false)))
  sNext)
def t_is_ascending : TDS :=
  (sSeq (sFor (iRange1 (e2 subD (eB lenD (aCons (eVar 0) aNil)) (eC (.int 1)))) (gNm 1) f1_is_ascending)
  (sRet (eC (.bl true))))
@[irreducible] def w_is_ascending : DSp := wOf 2 t_is_ascending
theorem w_is_ascending_eq : w_is_ascending = wOf 2 t_is_ascending := by unfold w_is_ascending; rfl

abbrev s_is_sign : Stmt := topS 16
def t_is_sign : TDS :=
  (sRet (eAnd (eCall w_is_tuple (aCons (eVar 0) (aCons (eC (.int 2)) aNil))) (eAnd (eCall w_is_name (aCons (e2 ixD (eVar 0) (eC (.int 0))) aNil)) (eAnd (eCall w_is_integer (aCons (e2 ixD (eVar 0) (eC (.int 1))) aNil)) (e2 geD (e2 ixD (eVar 0) (eC (.int 1))) (eC c_VARIABLE))))))
@[irreducible] def w_is_sign : DSp := wOf 1 t_is_sign
theorem w_is_sign_eq : w_is_sign = wOf 1 t_is_sign := by unfold w_is_sign; rfl

abbrev s_many_of : Stmt := topS 17
def t_many_of : TDS :=
  (sRet (eB maxD (aCons (e2 ixD (eVar 0) (eC (.int 1))) (aCons (eC (.int 0)) aNil))))
@[irreducible] def w_many_of : DSp := wOf 1 t_many_of
theorem w_many_of_eq : w_many_of = wOf 1 t_many_of := by unfold w_many_of; rfl

abbrev s_term_fault : Stmt := topS 18
def f1_term_fault : TDS :=
  (sSeq (sIf (tOrD (tTru (e2 eqA (eVar 1) (eC (.int 0)))) (tNotD (tTru (eCall w_is_sign (aCons (eVar 3) aNil)))))
  (sRet (eVar 2))
  sNext)
  (sAug 1 (e2 subD (eCall w_many_of (aCons (eVar 3) aNil)) (eC (.int 1))) iaddD))
def t_term_fault : TDS :=
  (sSeq (sIf (tNotD (tTru (e1 (isiG ["Book", "PricedBook"] (.inl 4)) (eVar 0))))
  (sRet (e1 negD (eC (.int 1))))
  sNext)
  (sSeq (sSet 1 (eC (.int 1)))
  (sSeq (sFor (iEnum (eVar 0)) (gTp 2 (gsCons (gNm 2) (gsCons (gNm 3) gsNil))) f1_term_fault)
  (sRet (eIf (tTru (e2 eqA (eVar 1) (eC (.int 0)))) (eC (.non)) (eB lenD (aCons (eVar 0) aNil)))))))
@[irreducible] def w_term_fault : DSp := wOf 4 t_term_fault
theorem w_term_fault_eq : w_term_fault = wOf 4 t_term_fault := by unfold w_term_fault; rfl

abbrev s_is_term : Stmt := topS 19
def t_is_term : TDS :=
  (sRet (e1 isND (eCall w_term_fault (aCons (eVar 0) aNil))))
@[irreducible] def w_is_term : DSp := wOf 1 t_is_term
theorem w_is_term_eq : w_is_term = wOf 1 t_is_term := by unfold w_is_term; rfl

abbrev s_are_placed : Stmt := topS 22
def v1_are_placed : TD :=
  (eVar 4)
def q1_are_placed : TDT :=
  (tTru (e2 ltD (eVar 3) (eVar 1)))
def v2_are_placed : TD :=
  (eVar 3)
def t_are_placed : TDS :=
  (sSeq (sIf (tOrD (tNotD (tTru (eCall w_is_tuple_of (aCons (eVar 0) (aCons (eC (.fn "is_placed")) aNil))))) (tNotD (tTru (eCall w_is_ascending (aCons (eLC (iSeq (eVar 0)) (gTp 2 (gsCons (gNm 4) (gsCons (gNm 2) gsNil))) tYesD v1_are_placed [4, 2]) aNil)))))
  (sRet (eC (.bl false)))
  sNext)
  (sRet (e2 eqA (eLC (iSeq (eVar 0)) (gTp 2 (gsCons (gNm 2) (gsCons (gNm 3) gsNil))) q1_are_placed v2_are_placed [2, 3]) (eLst aNil))))
@[irreducible] def w_are_placed : DSp := wOf 5 t_are_placed
theorem w_are_placed_eq : w_are_placed = wOf 5 t_are_placed := by unfold w_are_placed; rfl

abbrev s_are_makers_signs : Stmt := topS 23
def q1_are_makers_signs : TDT :=
  (tAndD (tTru (e2 neA (e2 ixD (eVar 2) (eC (.int 1))) (eC c_VARIABLE))) (tTru (e2 (inD false) (eVar 2) (eVar 0))))
def v1_are_makers_signs : TD :=
  (eVar 2)
def t_are_makers_signs : TDS :=
  (sRet (e2 eqA (eLC (iSeq (eVar 1)) (gNm 2) q1_are_makers_signs v1_are_makers_signs [2]) (eLst aNil)))
@[irreducible] def w_are_makers_signs : DSp := wOf 3 t_are_makers_signs
theorem w_are_makers_signs_eq : w_are_makers_signs = wOf 3 t_are_makers_signs := by unfold w_are_makers_signs; rfl

abbrev s_is_rule_line : Stmt := topS 24
def q1_is_rule_line : TDT :=
  (tOrD (tNotD (tTru (eCall w_is_term (aCons (eVar 3) aNil)))) (tNotD (tTru (eCall w_are_makers_signs (aCons (eVar 1) (aCons (eVar 3) aNil))))))
def v1_is_rule_line : TD :=
  (eVar 3)
def t_is_rule_line : TDS :=
  (sSeq (sIf (tOrD (tNotD (tTru (eCall w_is_tuple (aCons (eVar 2) (aCons (eC (.int 2)) aNil))))) (tOrD (tNotD (tTru (eCall w_is_name (aCons (e2 ixD (eVar 2) (eC (.int 0))) aNil)))) (tNotD (tTru (e1 (isiG ["Book", "PricedBook"] (.inl 4)) (e2 ixD (eVar 2) (eC (.int 1))))))))
  (sRet (eC (.bl false)))
  sNext)
  (sSeq (sIf (tTru (e2 (inD false) (eTup (aCons (e2 ixD (eVar 2) (eC (.int 0))) (aCons (eB lenD (aCons (e2 ixD (eVar 2) (eC (.int 1))) aNil)) aNil))) (eVar 0)))
  (sRet (eC (.bl false)))
  sNext)
  (sRet (e2 eqA (eLC (iSeq (e2 ixD (eVar 2) (eC (.int 1)))) (gNm 3) q1_is_rule_line v1_is_rule_line [3]) (eLst aNil)))))
@[irreducible] def w_is_rule_line : DSp := wOf 4 t_is_rule_line
theorem w_is_rule_line_eq : w_is_rule_line = wOf 4 t_is_rule_line := by unfold w_is_rule_line; rfl

abbrev s_is_rule : Stmt := topS 25
def q1_is_rule : TDT :=
  (tNotD (tTru (eCall w_is_rule_line (aCons (eVar 0) (aCons (eVar 1) (aCons (eVar 3) aNil))))))
def v1_is_rule : TD :=
  (eVar 3)
def t_is_rule : TDS :=
  (sSeq (sIf (tOrD (tNotD (tTru (eCall w_is_tuple (aCons (eVar 2) (aCons (eC (.int 2)) aNil))))) (tNotD (tTru (e1 (isiG ["Book", "PricedBook"] (.inl 4)) (e2 ixD (eVar 2) (eC (.int 0)))))))
  (sRet (eC (.bl false)))
  sNext)
  (sRet (e2 eqA (eLC (iSeq (e2 addD (e2 ixD (eVar 2) (eC (.int 0))) (eSlice (eVar 2) (oSome (eC (.int 1))) oNone))) (gNm 3) q1_is_rule v1_is_rule [3]) (eLst aNil))))
@[irreducible] def w_is_rule : DSp := wOf 4 t_is_rule
theorem w_is_rule_eq : w_is_rule = wOf 4 t_is_rule := by unfold w_is_rule; rfl

abbrev s_shared_name : Stmt := topS 26
def k1_shared_name : TD :=
  (eVar 5)
def v1_shared_name : TD :=
  (eC (.bl true))
def f1_shared_name : TDS :=
  (sIf (tTru (e2 (inD true) (e2 ixD (eVar 4) (eC (.int 0))) (eVar 2)))
  (sRet (eVar 3))
  sNext)
def t_shared_name : TDS :=
  (sSeq (sSet 2 (eDC (iSeq (eVar 0)) (gTp 2 (gsCons (gNm 5) (gsCons (gNm 6) gsNil))) tYesD k1_shared_name v1_shared_name [5, 6]))
  (sSeq (sFor (iEnum (eVar 1)) (gTp 2 (gsCons (gNm 3) (gsCons (gNm 4) gsNil))) f1_shared_name)
  (sRet (e1 negD (eC (.int 1))))))
@[irreducible] def w_shared_name : DSp := wOf 7 t_shared_name
theorem w_shared_name_eq : w_shared_name = wOf 7 t_shared_name := by unfold w_shared_name; rfl

abbrev s_book_fault : Stmt := topS 27
def f1_book_fault : TDS :=
  (sIf (tNotD (tTru (eCall w_is_rule (aCons (eFld ["Book"] (eVar 0) "relations") (aCons (eFld ["Book"] (eVar 0) "makers") (aCons (eVar 3) aNil))))))
  (sRet (eTup (aCons (eC (.str "rule")) (aCons (eVar 2) aNil))))
  sNext)
def t_book_fault : TDS :=
  (sSeq (sIf (tNotD (tTru (e1 (isiG ["Book", "PricedBook"] (.inl 4)) (eFld ["Book"] (eVar 0) "rules"))))
  (sRet (eTup (aCons (eC (.str "form")) (aCons (e1 negD (eC (.int 1))) aNil))))
  sNext)
  (sSeq (sIf (tOrD (tNotD (tTru (eCall w_are_placed (aCons (eFld ["Book"] (eVar 0) "relations") (aCons (eC (.int 1)) aNil))))) (tTru (e2 eqA (eFld ["Book"] (eVar 0) "relations") (eTup aNil))))
  (sRet (eTup (aCons (eC (.str "relations")) (aCons (e1 negD (eC (.int 1))) aNil))))
  sNext)
  (sSeq (sIf (tNotD (tTru (eCall w_are_placed (aCons (eFld ["Book"] (eVar 0) "makers") (aCons (eC (.int 0)) aNil)))))
  (sRet (eTup (aCons (eC (.str "makers")) (aCons (e1 negD (eC (.int 1))) aNil))))
  sNext)
  (sSeq (sSet 1 (eCall w_shared_name (aCons (eFld ["Book"] (eVar 0) "relations") (aCons (eFld ["Book"] (eVar 0) "makers") aNil))))
  (sSeq (sIf (tTru (e2 geD (eVar 1) (eC (.int 0))))
  (sRet (eTup (aCons (eC (.str "names")) (aCons (eVar 1) aNil))))
  sNext)
  (sSeq (sFor (iEnum (eFld ["Book"] (eVar 0) "rules")) (gTp 2 (gsCons (gNm 2) (gsCons (gNm 3) gsNil))) f1_book_fault)
  (sRet (eC (.non)))))))))
@[irreducible] def w_book_fault : DSp := wOf 4 t_book_fault
theorem w_book_fault_eq : w_book_fault = wOf 4 t_book_fault := by unfold w_book_fault; rfl

abbrev s_Book_init : Stmt := L2.inClass (topS 29) 0
def t_Book_init : TDS :=
  (sSeq (sFldD ["Book"] (eVar 0) (eVar 1) "relations")
  (sSeq (sFldD ["Book"] (eVar 0) (eVar 2) "makers")
  (sFldD ["Book"] (eVar 0) (eVar 3) "rules")))
@[irreducible] def w_Book_init : DSp := wOf 4 t_Book_init
theorem w_Book_init_eq : w_Book_init = wOf 4 t_Book_init := by unfold w_Book_init; rfl

abbrev s_Book___eq__ : Stmt := L2.inClass (topS 29) 1
def t_Book___eq__ : TDS :=
  (sSeq (sIf (tNotD (tTru (e1 (isiG ["Book", "PricedBook"] (.inr "Book")) (eVar 1))))
  (sRet (eC (.bl false)))
  sNext)
  (sRet (eAnd (e2 eqA (eFld ["Book"] (eVar 0) "relations") (eFld ["Book"] (eVar 1) "relations")) (eAnd (e2 eqA (eFld ["Book"] (eVar 0) "makers") (eFld ["Book"] (eVar 1) "makers")) (e2 eqA (eFld ["Book"] (eVar 0) "rules") (eFld ["Book"] (eVar 1) "rules"))))))
@[irreducible] def w_Book___eq__ : DSp := wOf 2 t_Book___eq__
theorem w_Book___eq___eq : w_Book___eq__ = wOf 2 t_Book___eq__ := by unfold w_Book___eq__; rfl

abbrev s_need_book : Stmt := topS 30
def t_need_book : TDS :=
  (sSeq (sIf (tNotD (tTru (e1 (isiG ["Book", "PricedBook"] (.inr "Book")) (eVar 0))))
  (sRaise "InvalidBook" ["word", "at"] (aCons (eC (.str "form")) (aCons (e1 negD (eC (.int 1))) aNil)))
  sNext)
  (sSeq (sSet 1 (eCall w_book_fault (aCons (eVar 0) aNil)))
  (sIf (tTru (e1 isNotND (eVar 1)))
  (sRaise "InvalidBook" ["word", "at"] (aCons (e2 ixD (eVar 1) (eC (.int 0))) (aCons (e2 ixD (eVar 1) (eC (.int 1))) aNil)))
  sNext)))
@[irreducible] def w_need_book : DSp := wOf 2 t_need_book
theorem w_need_book_eq : w_need_book = wOf 2 t_need_book := by unfold w_need_book; rfl

abbrev s_PricedBook_init : Stmt := L2.inClass (topS 37) 0
def t_PricedBook_init : TDS :=
  (sSeq (sFldD ["PricedBook"] (eVar 0) (eVar 1) "book")
  (sFldD ["PricedBook"] (eVar 0) (eVar 2) "prices"))
@[irreducible] def w_PricedBook_init : DSp := wOf 3 t_PricedBook_init
theorem w_PricedBook_init_eq : w_PricedBook_init = wOf 3 t_PricedBook_init := by unfold w_PricedBook_init; rfl

abbrev s_PricedBook___eq__ : Stmt := L2.inClass (topS 37) 1
def t_PricedBook___eq__ : TDS :=
  (sRet (eAnd (e1 (isiG ["Book", "PricedBook"] (.inr "PricedBook")) (eVar 1)) (eAnd (e2 (eqOwn ["Book", "PricedBook"] "Book" w_Book___eq__) (eFld ["PricedBook"] (eVar 0) "book") (eFld ["PricedBook"] (eVar 1) "book")) (e2 eqA (eFld ["PricedBook"] (eVar 0) "prices") (eFld ["PricedBook"] (eVar 1) "prices")))))
@[irreducible] def w_PricedBook___eq__ : DSp := wOf 2 t_PricedBook___eq__
theorem w_PricedBook___eq___eq : w_PricedBook___eq__ = wOf 2 t_PricedBook___eq__ := by unfold w_PricedBook___eq__; rfl

abbrev s_need_priced : Stmt := topS 38
def t_need_priced : TDS :=
  (sSeq (sIf (tNotD (tTru (e1 (isiG ["Book", "PricedBook"] (.inr "PricedBook")) (eVar 0))))
  (sRaise "InvalidBook" ["word", "at"] (aCons (eC (.str "form")) (aCons (e1 negD (eC (.int 1))) aNil)))
  sNext)
  (sSeq (sExpr (eCall w_need_book (aCons (eFld ["PricedBook"] (eVar 0) "book") aNil)))
  (sSeq (sIf (tNotD (tTru (eCall w_is_tuple (aCons (eFld ["PricedBook"] (eVar 0) "prices") (aCons (eB lenD (aCons (eFld ["Book"] (eFld ["PricedBook"] (eVar 0) "book") "rules") aNil)) aNil)))))
  (sRaise "InvalidBook" ["word", "at"] (aCons (eC (.str "prices")) (aCons (e1 negD (eC (.int 1))) aNil)))
  sNext)
  (sSeq (sSet 1 (eCall w_first_wrong (aCons (eFld ["PricedBook"] (eVar 0) "prices") (aCons (eC (.fn "is_price")) aNil))))
  (sIf (tTru (e2 geD (eVar 1) (eC (.int 0))))
  (sRaise "InvalidBook" ["word", "at"] (aCons (eC (.str "price")) (aCons (eVar 1) aNil)))
  sNext)))))
@[irreducible] def w_need_priced : DSp := wOf 2 t_need_priced
theorem w_need_priced_eq : w_need_priced = wOf 2 t_need_priced := by unfold w_need_priced; rfl

abbrev s_all_alike : Stmt := topS 39
def t_all_alike : TDS :=
  (sRet (eMake "PricedBook" w_PricedBook_init (aCons (eVar 0) (aCons (e2 mulD (eTup (aCons (eVar 1) aNil)) (eB lenD (aCons (eFld ["Book"] (eVar 0) "rules") aNil))) aNil))))
@[irreducible] def w_all_alike : DSp := wOf 2 t_all_alike
theorem w_all_alike_eq : w_all_alike = wOf 2 t_all_alike := by unfold w_all_alike; rfl

abbrev s_repriced : Stmt := topS 40
def t_repriced : TDS :=
  (sRet (eMake "PricedBook" w_PricedBook_init (aCons (eFld ["PricedBook"] (eVar 0) "book") (aCons (e2 addD (e2 addD (eSlice (eFld ["PricedBook"] (eVar 0) "prices") oNone (oSome (eVar 1))) (eTup (aCons (eVar 2) aNil))) (eSlice (eFld ["PricedBook"] (eVar 0) "prices") (oSome (e2 addD (eVar 1) (eC (.int 1)))) oNone)) aNil))))
@[irreducible] def w_repriced : DSp := wOf 3 t_repriced
theorem w_repriced_eq : w_repriced = wOf 3 t_repriced := by unfold w_repriced; rfl

abbrev s_law_deal : Stmt := topS 42
def v1_law_deal : TD :=
  (e2 modD (eB intD (aCons (eB absD (aCons (eB intD (aCons (eVar 5) aNil)) aNil)) aNil)) (eVar 2))
def f1_law_deal : TDS :=
  (sSet 4 (e2 modD (eB intD (aCons (e2 addD (e2 addD (e2 mulD (eVar 4) (eC (.int 69621))) (e2 modD (eB intD (aCons (eVar 5) aNil)) (eC (.int 2147483563)))) (eC (.int 23))) aNil)) (eC (.int 2147483647))))
def q1_law_deal : TDT :=
  (tTru (e2 geD (eVar 5) (e2 powD (eC (.int 10)) (eC (.int 18)))))
def v2_law_deal : TD :=
  (eVar 5)
def t_law_deal : TDS :=
  (sSeq (sSet 2 (e2 mulD (e2 mulD (e2 mulD (e2 mulD (e2 mulD (e2 powD (eC (.int 10)) (eC (.int 64))) (e2 powD (eC (.int 10)) (eC (.int 64)))) (e2 powD (eC (.int 10)) (eC (.int 64)))) (e2 powD (eC (.int 10)) (eC (.int 64)))) (e2 powD (eC (.int 10)) (eC (.int 64)))) (e2 powD (eC (.int 10)) (eC (.int 64)))))
  (sSeq (sSet 3 (eLC (iSeq (eSlice (eVar 0) oNone (oSome (eC (.int 63))))) (gNm 5) tYesD v1_law_deal [5]))
  (sSeq (sSet 4 (e2 addD (eC (.int 70001)) (e2 mulD (eC (.int 7919)) (eVar 1))))
  (sSeq (sFor (iSeq (eVar 3)) (gNm 5) f1_law_deal)
  (sRet (eLst (aCons (eRev (eLC (iSeq (eVar 3)) (gNm 5) q1_law_deal v2_law_deal [5])) (aCons (eVar 4) aNil))))))))
@[irreducible] def w_law_deal : DSp := wOf 6 t_law_deal
theorem w_law_deal_eq : w_law_deal = wOf 6 t_law_deal := by unfold w_law_deal; rfl

abbrev s_law_any : Stmt := topS 43
def c1_law_any : TDT :=
  (tAndD (tTru (e2 gtD (eB lenD (aCons (e2 ixD (eVar 0) (eC (.int 0))) aNil)) (eC (.int 0)))) (tTru (e2 eqA (e2 ixD (e2 ixD (eVar 0) (eC (.int 0))) (e1 negD (eC (.int 1)))) (eC (.int 0)))))
def b1_law_any : TDS :=
  (sExpr (ePop (e2 ixD (eVar 0) (eC (.int 0)))))
def t_law_any : TDS :=
  (sSeq (sWhile c1_law_any b1_law_any)
  (sSeq (sIf (tTru (e2 gtD (eB lenD (aCons (e2 ixD (eVar 0) (eC (.int 0))) aNil)) (eC (.int 0))))
  (sSeq (sSet 2 (eB intD (aCons (ePop (e2 ixD (eVar 0) (eC (.int 0)))) aNil)))
  (sSeq (sExpr (eAppend (e2 ixD (eVar 0) (eC (.int 0))) (e2 divD (eVar 2) (eVar 1))))
  (sRet (e2 modD (eVar 2) (eVar 1)))))
  sNext)
  (sSeq (sSetIx (eVar 0) (eC (.int 1)) (e2 modD (eB intD (aCons (e2 addD (e2 mulD (e2 ixD (eVar 0) (eC (.int 1))) (eC (.int 48271))) (eC (.int 31))) aNil)) (eC (.int 2147483647))))
  (sRet (e2 modD (eB intD (aCons (e2 divD (e2 ixD (eVar 0) (eC (.int 1))) (eC (.int 64))) aNil)) (eVar 1))))))
@[irreducible] def w_law_any : DSp := wOf 3 t_law_any
theorem w_law_any_eq : w_law_any = wOf 3 t_law_any := by unfold w_law_any; rfl

abbrev s_law_of : Stmt := topS 44
def t_law_of : TDS :=
  (sRet (e2 ixD (eVar 1) (eCall w_law_any (aCons (eVar 0) (aCons (eB lenD (aCons (eVar 1) aNil)) aNil)))))
@[irreducible] def w_law_of : DSp := wOf 2 t_law_of
theorem w_law_of_eq : w_law_of = wOf 2 t_law_of := by unfold w_law_of; rfl

abbrev s_law_is_kind : Stmt := topS 45
def t_law_is_kind : TDS :=
  (sSeq (sIf (tTru (e1 isND (eVar 1)))
  (sRet (e1 isND (eVar 0)))
  sNext)
  (sSeq (sIf (tOrD (tTru (e1 (isBD true) (eVar 1))) (tTru (e1 (isBD false) (eVar 1))))
  (sRet (eIf (tTru (eVar 1)) (e1 (isBD true) (eVar 0)) (e1 (isBD false) (eVar 0))))
  sNext)
  (sSeq (sIf (tTru (e1 (isiG ["Book", "PricedBook"] (.inl 3)) (eVar 1)))
  (sRet (eAnd (e1 (isiG ["Book", "PricedBook"] (.inl 3)) (eVar 0)) (e2 eqA (eVar 0) (eVar 1))))
  sNext)
  (sRet (eAnd (e1 (isiG ["Book", "PricedBook"] (.inl 2)) (eVar 0)) (eAnd (eNot (e1 (isiG ["Book", "PricedBook"] (.inl 1)) (eVar 0))) (e2 eqA (eVar 0) (eVar 1))))))))
@[irreducible] def w_law_is_kind : DSp := wOf 2 t_law_is_kind
theorem w_law_is_kind_eq : w_law_is_kind = wOf 2 t_law_is_kind := by unfold w_law_is_kind; rfl

abbrev s_law_same : Stmt := topS 46
def f1_law_same : TDS :=
  (sExpr (eAppend (eVar 2) (eTup (aCons (e2 ixD (eVar 3) (eVar 5)) (aCons (e2 ixD (eVar 4) (eVar 5)) aNil)))))
def c1_law_same : TDT :=
  (tTru (e2 gtD (eB lenD (aCons (eVar 2) aNil)) (eC (.int 0))))
def b1_law_same : TDS :=
  (sSeq (sAsg (ePop (eVar 2)) (gTp 2 (gsCons (gNm 3) (gsCons (gNm 4) gsNil))))
  (sIf (tTru (e1 (isiG ["Book", "PricedBook"] (.inl 4)) (eVar 4)))
  (sSeq (sIf (tOrD (tNotD (tTru (e1 (isiG ["Book", "PricedBook"] (.inl 4)) (eVar 3)))) (tTru (e2 neA (eB lenD (aCons (eVar 3) aNil)) (eB lenD (aCons (eVar 4) aNil)))))
  (sRet (eC (.bl false)))
  sNext)
  (sFor (iRange1 (eB lenD (aCons (eVar 4) aNil))) (gNm 5) f1_law_same))
  (sIf (tOrD (tTru (e1 (isi3D 4 5 6) (eVar 3))) (tNotD (tTru (eCall w_law_is_kind (aCons (eVar 3) (aCons (eVar 4) aNil))))))
  (sRet (eC (.bl false)))
  sNext)))
def t_law_same : TDS :=
  (sSeq (sSet 2 (eLst (aCons (eTup (aCons (eVar 0) (aCons (eVar 1) aNil))) aNil)))
  (sSeq (sWhile c1_law_same b1_law_same)
  (sRet (eC (.bl true)))))
@[irreducible] def w_law_same : DSp := wOf 6 t_law_same
theorem w_law_same_eq : w_law_same = wOf 6 t_law_same := by unfold w_law_same; rfl

abbrev s_law_all : Stmt := topS 47
def q1_law_all : TDT :=
  (tNotD (tTru (eCall w_law_same (aCons (eVar 1) (aCons (eVar 2) aNil)))))
def v1_law_all : TD :=
  (eVar 1)
def t_law_all : TDS :=
  (sRet (e2 eqA (eB lenD (aCons (eLC (iSeq (eVar 0)) (gTp 2 (gsCons (gNm 1) (gsCons (gNm 2) gsNil))) q1_law_all v1_law_all [1, 2]) aNil)) (eC (.int 0))))
@[irreducible] def w_law_all : DSp := wOf 3 t_law_all
theorem w_law_all_eq : w_law_all = wOf 3 t_law_all := by unfold w_law_all; rfl

abbrev s_law_mixed : Stmt := topS 48
def f1_law_mixed : TDS :=
  (sExpr (eAppend (eVar 4) (ePopAt (eVar 3) (eCall w_law_any (aCons (eVar 0) (aCons (eB lenD (aCons (eVar 3) aNil)) aNil))))))
def t_law_mixed : TDS :=
  (sSeq (sPar 3 4 (aCons (eB listD (aCons (eVar 1) aNil)) (aCons (eLst aNil) aNil)))
  (sSeq (sFor (iRange1 (eB lenD (aCons (eVar 1) aNil))) (gNm 2) f1_law_mixed)
  (sRet (eVar 4))))
@[irreducible] def w_law_mixed : DSp := wOf 5 t_law_mixed
theorem w_law_mixed_eq : w_law_mixed = wOf 5 t_law_mixed := by unfold w_law_mixed; rfl

abbrev s_law_name : Stmt := topS 49
def v1_law_name : TD :=
  (eCall w_law_of (aCons (eVar 0) (aCons (eB listS (aCons (eC (.str "mnopqrstuvwxyz")) aNil)) aNil)))
def t_law_name : TDS :=
  (sRet (e2 addD (e2 ixD (eC (.str "abcdefghijkl")) (eVar 1)) (eJoin (eC (.str "")) (eLC (iRange1 (eCall w_law_any (aCons (eVar 0) (aCons (eC (.int 8)) aNil)))) (gNm 2) tYesD v1_law_name [2]))))
@[irreducible] def w_law_name : DSp := wOf 3 t_law_name
theorem w_law_name_eq : w_law_name = wOf 3 t_law_name := by unfold w_law_name; rfl

abbrev s_law_drawn_term : Stmt := topS 50
def q1_law_drawn_term : TDT :=
  (tTru (e2 leD (e2 ixD (eVar 8) (eC (.int 1))) (eVar 6)))
def v1_law_drawn_term : TD :=
  (eVar 8)
def c1_law_drawn_term : TDT :=
  (tTru (e2 gtD (eVar 5) (eC (.int 0))))
def b1_law_drawn_term : TDS :=
  (sSeq (sSet 6 (e2 subD (e2 subD (eVar 3) (eB lenD (aCons (eVar 4) aNil))) (eVar 5)))
  (sSeq (sSet 7 (eLC (iSeq (eVar 1)) (gNm 8) q1_law_drawn_term v1_law_drawn_term [8]))
  (sSeq (sSet 8 (eIf (tAndD (tTru (e2 gtD (eB lenD (aCons (eVar 7) aNil)) (eC (.int 0)))) (tTru (e2 gtD (eCall w_law_any (aCons (eVar 0) (aCons (eC (.int 3)) aNil))) (eC (.int 0))))) (eCall w_law_of (aCons (eVar 0) (aCons (eVar 7) aNil))) (eCall w_law_of (aCons (eVar 0) (aCons (eVar 2) aNil)))))
  (sPar 4 5 (aCons (e2 addD (eVar 4) (eTup (aCons (eVar 8) aNil))) (aCons (e2 addD (e2 subD (eVar 5) (eC (.int 1))) (eB maxD (aCons (e2 ixD (eVar 8) (eC (.int 1))) (aCons (eC (.int 0)) aNil)))) aNil))))))
def t_law_drawn_term : TDS :=
  (sSeq (sAsg (eTup (aCons (eTup aNil) (aCons (eC (.int 1)) aNil))) (gTp 2 (gsCons (gNm 4) (gsCons (gNm 5) gsNil))))
  (sSeq (sWhile c1_law_drawn_term b1_law_drawn_term)
  (sRet (eVar 4))))
@[irreducible] def w_law_drawn_term : DSp := wOf 9 t_law_drawn_term
theorem w_law_drawn_term_eq : w_law_drawn_term = wOf 9 t_law_drawn_term := by unfold w_law_drawn_term; rfl

abbrev s_law_kit : Stmt := topS 51
def t_law_kit : TDS :=
  (sRet (eDisp (pCons (eC (.str "relations")) (eB tupleD (aCons (eB sortedD (aCons (eVar 0) aNil)) aNil)) (pCons (eC (.str "makers")) (eB tupleD (aCons (eB sortedD (aCons (eVar 1) aNil)) aNil)) (pCons (eC (.str "rules")) (eB tupleD (aCons (eVar 2) aNil)) pNil)))))
@[irreducible] def w_law_kit : DSp := wOf 3 t_law_kit
theorem w_law_kit_eq : w_law_kit = wOf 3 t_law_kit := by unfold w_law_kit; rfl

abbrev s_law_drawn_rule : Stmt := topS 52
def v1_law_drawn_rule : TD :=
  (eTup (aCons (eVar 8) (aCons (e2 subD (eC (.int 0)) (eC (.int 1))) aNil)))
def v2_law_drawn_rule : TD :=
  (eCall w_law_drawn_term (aCons (eVar 0) (aCons (eVar 2) (aCons (eVar 5) (aCons (e2 addD (eC (.int 1)) (eCall w_law_any (aCons (eVar 0) (aCons (eC (.int 5)) aNil)))) aNil)))))
def f1_law_drawn_rule : TDS :=
  (sSeq (sAsg (eCall w_law_of (aCons (eVar 0) (aCons (eVar 1) aNil))) (gTp 2 (gsCons (gNm 9) (gsCons (gNm 10) gsNil))))
  (sExpr (eAppend (eVar 6) (eTup (aCons (eVar 9) (aCons (eB tupleD (aCons (eLC (iRange1 (eVar 10)) (gNm 11) tYesD v2_law_drawn_rule [11]) aNil)) aNil))))))
def t_law_drawn_rule : TDS :=
  (sSeq (sSet 4 (e2 addD (eLst (aCons (eCall w_law_of (aCons (eVar 0) (aCons (eLst (aCons (eC (.str "x")) (aCons (eC (.str "y")) (aCons (eC (.str "z")) (aCons (eC (.str "then")) (aCons (eC (.str "u")) (aCons (eC (.str "v")) (aCons (eC (.str "w")) (aCons (eC (.str "rule")) aNil))))))))) aNil))) aNil)) (eSlice (eLst (aCons (eC (.str "xx")) (aCons (eC (.str "yy")) (aCons (eC (.str "zz")) aNil)))) oNone (oSome (eCall w_law_any (aCons (eVar 0) (aCons (eC (.int 3)) aNil)))))))
  (sSeq (sSet 5 (eLC (iSeq (eVar 4)) (gNm 8) tYesD v1_law_drawn_rule [8]))
  (sSeq (sSet 6 (eLst aNil))
  (sSeq (sFor (iRange1 (e2 addD (eC (.int 1)) (eCall w_law_any (aCons (eVar 0) (aCons (e2 addD (eVar 3) (eC (.int 1))) aNil))))) (gNm 7) f1_law_drawn_rule)
  (sRet (eTup (aCons (eB tupleD (aCons (eSlice (eVar 6) oNone (oSome (e1 negD (eC (.int 1))))) aNil)) (aCons (e2 ixD (eVar 6) (e1 negD (eC (.int 1)))) aNil))))))))
@[irreducible] def w_law_drawn_rule : DSp := wOf 12 t_law_drawn_rule
theorem w_law_drawn_rule_eq : w_law_drawn_rule = wOf 12 t_law_drawn_rule := by unfold w_law_drawn_rule; rfl

abbrev s_law_drawn_kit : Stmt := topS 53
def v1_law_drawn_kit : TD :=
  (eCall w_law_name (aCons (eVar 0) (aCons (eVar 8) aNil)))
def v2_law_drawn_kit : TD :=
  (eTup (aCons (eVar 9) (aCons (e2 addD (eC (.int 1)) (eCall w_law_any (aCons (eVar 0) (aCons (eC (.int 3)) aNil)))) aNil)))
def v3_law_drawn_kit : TD :=
  (eTup (aCons (eVar 9) (aCons (eCall w_law_any (aCons (eVar 0) (aCons (eC (.int 4)) aNil))) aNil)))
def v4_law_drawn_kit : TD :=
  (eCall w_law_drawn_rule (aCons (eVar 0) (aCons (eVar 3) (aCons (eVar 4) (aCons (eC (.int 4)) aNil)))))
def t_law_drawn_kit : TDS :=
  (sSeq (sSet 1 (eLC (iSeq (eCall w_law_mixed (aCons (eVar 0) (aCons (eListRg (eC (.int 12))) aNil)))) (gNm 8) tYesD v1_law_drawn_kit [8]))
  (sSeq (sSet 2 (eCall w_law_of (aCons (eVar 0) (aCons (eLst (aCons (eLst (aCons (eC (.str "then")) (aCons (eC (.str "rule")) aNil))) (aCons (eLst (aCons (eC (.str "maker")) (aCons (eC (.str "then")) aNil))) (aCons (eLst (aCons (eC (.str "relation")) (aCons (eC (.str "then")) aNil))) (aCons (eSlice (eVar 1) (oSome (eC (.int 10))) oNone) aNil))))) aNil))))
  (sSeq (sPar 6 7 (aCons (e2 addD (eC (.int 1)) (eCall w_law_any (aCons (eVar 0) (aCons (eC (.int 6)) aNil)))) (aCons (eCall w_law_any (aCons (eVar 0) (aCons (eC (.int 5)) aNil))) aNil)))
  (sSeq (sSet 3 (eLC (iSeq (eSlice (e2 addD (eSlice (eVar 2) oNone (oSome (eC (.int 1)))) (eVar 1)) oNone (oSome (eVar 6)))) (gNm 9) tYesD v2_law_drawn_kit [9]))
  (sSeq (sSet 4 (eLC (iSeq (eSlice (e2 addD (eSlice (eVar 2) (oSome (eC (.int 1))) oNone) (eSlice (eVar 1) (oSome (eC (.int 6))) oNone)) oNone (oSome (eVar 7)))) (gNm 9) tYesD v3_law_drawn_kit [9]))
  (sSeq (sSet 5 (eLC (iRange1 (eCall w_law_of (aCons (eVar 0) (aCons (eLst (aCons (eC (.int 0)) (aCons (eC (.int 1)) (aCons (eC (.int 3)) (aCons (eC (.int 6)) (aCons (eC (.int 14)) aNil)))))) aNil)))) (gNm 10) tYesD v4_law_drawn_kit [10]))
  (sRet (eCall w_law_kit (aCons (eVar 3) (aCons (eVar 4) (aCons (eVar 5) aNil)))))))))))
@[irreducible] def w_law_drawn_kit : DSp := wOf 11 t_law_drawn_kit
theorem w_law_drawn_kit_eq : w_law_drawn_kit = wOf 11 t_law_drawn_kit := by unfold w_law_drawn_kit; rfl

abbrev s_law_book : Stmt := topS 54
def t_law_book : TDS :=
  (sRet (eMake "Book" w_Book_init (aCons (e2 ixD (eVar 0) (eC (.str "relations"))) (aCons (e2 ixD (eVar 0) (eC (.str "makers"))) (aCons (e2 ixD (eVar 0) (eC (.str "rules"))) aNil)))))
@[irreducible] def w_law_book : DSp := wOf 1 t_law_book
theorem w_law_book_eq : w_law_book = wOf 1 t_law_book := by unfold w_law_book; rfl

abbrev s_law_parts_of : Stmt := topS 55
def t_law_parts_of : TDS :=
  (sRet (eTup (aCons (eFld ["Book"] (eVar 0) "relations") (aCons (eFld ["Book"] (eVar 0) "makers") (aCons (eFld ["Book"] (eVar 0) "rules") aNil)))))
@[irreducible] def w_law_parts_of : DSp := wOf 1 t_law_parts_of
theorem w_law_parts_of_eq : w_law_parts_of = wOf 1 t_law_parts_of := by unfold w_law_parts_of; rfl

abbrev s_law_price : Stmt := topS 56
def t_law_price : TDS :=
  (sRet (eCall w_law_of (aCons (eVar 0) (aCons (eLst (aCons (eTup (aCons (eC (.int 0)) (aCons (eC (.int 1)) aNil))) (aCons (eTup (aCons (eC (.int 1)) (aCons (eC (.int 1)) aNil))) (aCons (eTup (aCons (eC (.int 2)) (aCons (eC (.int 1)) aNil))) (aCons (eTup (aCons (eC (.int 3)) (aCons (eC (.int 1)) aNil))) (aCons (eTup (aCons (eC (.int 5)) (aCons (eC (.int 1)) aNil))) (aCons (eTup (aCons (eC (.int 1)) (aCons (eC (.int 2)) aNil))) (aCons (eTup (aCons (eC (.int 3)) (aCons (eC (.int 2)) aNil))) (aCons (eTup (aCons (eC (.int 2)) (aCons (eC (.int 3)) aNil))) (aCons (eTup (aCons (eC (.int 7)) (aCons (eC (.int 4)) aNil))) (aCons (eTup (aCons (eC (.int 11)) (aCons (eC (.int 12)) aNil))) (aCons (eTup (aCons (eC (.int 40)) (aCons (eC (.int 1)) aNil))) aNil)))))))))))) aNil))))
@[irreducible] def w_law_price : DSp := wOf 1 t_law_price
theorem w_law_price_eq : w_law_price = wOf 1 t_law_price := by unfold w_law_price; rfl

abbrev s_law_said : Stmt := topS 57
def h1_law_said : List HD :=
  [("InvalidBook", ["InvalidBook"], some 2, (xTup (xCons (xC (.str "refused")) (xCons (xF "InvalidBook" "word") (xCons (xF "InvalidBook" "at") xNil))))), ("BookError", ["InvalidBook"], none, (xTup (xCons (xC (.str "other")) xNil)))]
def y1_law_said : TDS :=
  (sRet (eTup (aCons (eC (.str "told")) (aCons (eIf (tTru (eVar 1)) (eCallK w_need_priced [0] aNil (aCons (eVar 0) aNil)) (eCall w_need_priced (aCons (eVar 0) aNil))) aNil))))
def t_law_said : TDS :=
  (sTry ["InvalidBook"] y1_law_said h1_law_said)
@[irreducible] def w_law_said : DSp := wOf 3 t_law_said
theorem w_law_said_eq : w_law_said = wOf 3 t_law_said := by unfold w_law_said; rfl

abbrev s_law_parts_told : Stmt := topS 58
def t_law_parts_told : TDS :=
  (sRet (e2 addD (eCall w_law_parts_of (aCons (eFld ["PricedBook"] (eVar 0) "book") aNil)) (eTup (aCons (eFld ["PricedBook"] (eVar 0) "prices") aNil))))
@[irreducible] def w_law_parts_told : DSp := wOf 1 t_law_parts_told
theorem w_law_parts_told_eq : w_law_parts_told = wOf 1 t_law_parts_told := by unfold w_law_parts_told; rfl

abbrev s_law : Stmt := topS 59
def v1_law : TD :=
  (eCall w_law_price (aCons (eVar 1) aNil))
def f1_law : TDS :=
  (sSeq (sSet 16 (e2 addD (e2 addD (eSlice (eVar 9) oNone (oSome (eVar 6))) (eTup (aCons (eVar 7) aNil))) (eSlice (eVar 9) (oSome (e2 addD (eVar 6) (eC (.int 1)))) oNone)))
  (sSeq (sExpr (eAppend (eVar 2) (eTup (aCons (eCall w_law_said (aCons (eMake "PricedBook" w_PricedBook_init (aCons (eVar 10) (aCons (eVar 16) aNil))) (aCons (eC (.bl false)) aNil))) (aCons (eTup (aCons (eC (.str "refused")) (aCons (eC (.str "price")) (aCons (eVar 6) aNil)))) aNil)))))
  (sExpr (eAppend (eVar 2) (eTup (aCons (eCall w_law_said (aCons (eMake "PricedBook" w_PricedBook_init (aCons (eVar 10) (aCons (e2 addD (eSlice (eVar 16) oNone (oSome (e2 addD (eVar 6) (eC (.int 1))))) (e2 mulD (eTup (aCons (eC (.non)) aNil)) (e2 subD (e2 subD (eVar 13) (eVar 6)) (eC (.int 1))))) aNil))) (aCons (eC (.bl false)) aNil))) (aCons (eTup (aCons (eC (.str "refused")) (aCons (eC (.str "price")) (aCons (eVar 6) aNil)))) aNil)))))))
def f2_law : TDS :=
  (sSeq (sSet 14 (e2 addD (e2 addD (eSlice (eVar 9) oNone (oSome (eVar 6))) (eTup (aCons (eVar 12) aNil))) (eSlice (eVar 9) (oSome (e2 addD (eVar 6) (eC (.int 1)))) oNone)))
  (sSeq (sSet 2 (e2 addD (eVar 2) (eLst (aCons (eTup (aCons (eCall w_law_parts_told (aCons (eCall w_repriced (aCons (eVar 11) (aCons (eVar 6) (aCons (eVar 12) aNil)))) aNil)) (aCons (e2 addD (eVar 5) (eTup (aCons (eVar 14) aNil))) aNil))) (aCons (eTup (aCons (e2 (eqOwn ["Book", "PricedBook"] "PricedBook" w_PricedBook___eq__) (eCallK w_repriced [2, 1, 0] aNil (aCons (eVar 12) (aCons (eVar 6) (aCons (eVar 11) aNil)))) (eVar 11)) (aCons (e2 eqA (eVar 14) (eVar 9)) aNil))) aNil)))))
  (sFor (iSeq (eLst (aCons (eC (.non)) (aCons (eC (.int 0)) (aCons (eTup (aCons (eC (.int 1)) aNil)) (aCons (eTup (aCons (eC (.int 2)) (aCons (eC (.int 4)) aNil))) (aCons (eTup (aCons (e2 subD (eC (.int 0)) (eC (.int 1))) (aCons (eC (.int 1)) aNil))) (aCons (eLst (aCons (eC (.int 1)) (aCons (eC (.int 1)) aNil))) (aCons (eC (.str "1")) (aCons (eTup (aCons (eC (.bl true)) (aCons (eC (.int 1)) aNil))) aNil)))))))))) (gNm 7) f1_law)))
def f3_law : TDS :=
  (sExpr (eAppend (eVar 2) (eTup (aCons (eCall w_law_said (aCons (eMake "PricedBook" w_PricedBook_init (aCons (eVar 10) (aCons (eVar 7) aNil))) (aCons (eC (.bl false)) aNil))) (aCons (eTup (aCons (eC (.str "refused")) (aCons (eC (.str "prices")) (aCons (e2 subD (eC (.int 0)) (eC (.int 1))) aNil)))) aNil)))))
def f4_law : TDS :=
  (sSeq (sSet 2 (e2 addD (eVar 2) (eLst (aCons (eTup (aCons (eCall w_law_said (aCons (eMake "PricedBook" w_PricedBook_init (aCons (eVar 7) (aCons (eVar 9) aNil))) (aCons (eC (.bl false)) aNil))) (aCons (eTup (aCons (eC (.str "refused")) (aCons (eVar 15) (aCons (e2 subD (eC (.int 0)) (eC (.int 1))) aNil)))) aNil))) aNil))))
  (sSet 2 (e2 addD (eVar 2) (eLst (aCons (eTup (aCons (eCall w_law_said (aCons (eMake "PricedBook" w_PricedBook_init (aCons (eVar 7) (aCons (eC (.non)) aNil))) (aCons (eC (.bl false)) aNil))) (aCons (eTup (aCons (eC (.str "refused")) (aCons (eVar 15) (aCons (e2 subD (eC (.int 0)) (eC (.int 1))) aNil)))) aNil))) aNil)))))
def f5_law : TDS :=
  (sExpr (eAppend (eVar 2) (eTup (aCons (eCall w_law_said (aCons (eVar 7) (aCons (eC (.bl false)) aNil))) (aCons (eTup (aCons (eC (.str "refused")) (aCons (eC (.str "form")) (aCons (e2 subD (eC (.int 0)) (eC (.int 1))) aNil)))) aNil)))))
def f6_law : TDS :=
  (sSeq (sSet 4 (eCall w_law_drawn_kit (aCons (eVar 1) aNil)))
  (sSeq (sPar 9 10 (aCons (eB tupleD (aCons (eLC (iSeq (e2 ixD (eVar 4) (eC (.str "rules")))) (gNm 17) tYesD v1_law [17]) aNil)) (aCons (eCall w_law_book (aCons (eVar 4) aNil)) aNil)))
  (sSeq (sPar3 11 12 13 (aCons (eMake "PricedBook" w_PricedBook_init (aCons (eVar 10) (aCons (eVar 9) aNil))) (aCons (eCall w_law_price (aCons (eVar 1) aNil)) (aCons (eB lenD (aCons (eVar 9) aNil)) aNil))))
  (sSeq (sSet 5 (eTup (aCons (e2 ixD (eVar 4) (eC (.str "relations"))) (aCons (e2 ixD (eVar 4) (eC (.str "makers"))) (aCons (e2 ixD (eVar 4) (eC (.str "rules"))) aNil)))))
  (sSeq (sSet 2 (e2 addD (eVar 2) (eLst (aCons (eTup (aCons (eCall w_law_said (aCons (eVar 11) (aCons (e2 eqA (eVar 3) (eC (.int 0))) aNil))) (aCons (eTup (aCons (eC (.str "told")) (aCons (eC (.non)) aNil))) aNil))) (aCons (eTup (aCons (eCall w_law_parts_told (aCons (eVar 11) aNil)) (aCons (e2 addD (eVar 5) (eTup (aCons (eVar 9) aNil))) aNil))) aNil)))))
  (sSeq (sSet 2 (e2 addD (eVar 2) (eLst (aCons (eTup (aCons (e2 (eqOwn ["Book", "PricedBook"] "PricedBook" w_PricedBook___eq__) (eVar 11) (eMakeK "PricedBook" w_PricedBook_init [1, 0] (aCons (eVar 9) (aCons (eCall w_law_book (aCons (eVar 4) aNil)) aNil)))) (aCons (eC (.bl true)) aNil))) (aCons (eTup (aCons (e2 (eqOwn ["Book", "PricedBook"] "PricedBook" w_PricedBook___eq__) (eVar 11) (eMake "PricedBook" w_PricedBook_init (aCons (eVar 10) (aCons (e2 addD (eVar 9) (eTup (aCons (eTup (aCons (eC (.int 1)) (aCons (eC (.int 1)) aNil))) aNil))) aNil)))) (aCons (eC (.bl false)) aNil))) aNil)))))
  (sSeq (sSet 2 (e2 addD (eVar 2) (eLst (aCons (eTup (aCons (e2 (eqOwn ["Book", "PricedBook"] "PricedBook" w_PricedBook___eq__) (eVar 11) (eTup (aCons (eVar 10) (aCons (eVar 9) aNil)))) (aCons (eC (.bl false)) aNil))) (aCons (eTup (aCons (e2 (eqOwn ["Book", "PricedBook"] "PricedBook" w_PricedBook___eq__) (eVar 11) (eVar 10)) (aCons (eC (.bl false)) aNil))) aNil)))))
  (sSeq (sSet 2 (e2 addD (eVar 2) (eLst (aCons (eTup (aCons (eCall w_law_parts_told (aCons (eCall w_all_alike (aCons (eVar 10) (aCons (eVar 12) aNil))) aNil)) (aCons (e2 addD (eVar 5) (eTup (aCons (e2 mulD (eTup (aCons (eVar 12) aNil)) (eVar 13)) aNil))) aNil))) aNil))))
  (sSeq (sSet 2 (e2 addD (eVar 2) (eLst (aCons (eTup (aCons (eCall w_law_parts_told (aCons (eCallK w_all_alike [1, 0] aNil (aCons (eVar 12) (aCons (eVar 10) aNil))) aNil)) (aCons (e2 addD (eVar 5) (eTup (aCons (e2 mulD (eTup (aCons (eVar 12) aNil)) (eVar 13)) aNil))) aNil))) (aCons (eTup (aCons (eCall w_law_said (aCons (eCall w_all_alike (aCons (eVar 10) (aCons (eVar 12) aNil))) (aCons (eC (.bl false)) aNil))) (aCons (eTup (aCons (eC (.str "told")) (aCons (eC (.non)) aNil))) aNil))) aNil)))))
  (sSeq (sFor (iRange1 (eB minD (aCons (eVar 13) (aCons (eC (.int 4)) aNil)))) (gNm 6) f2_law)
  (sSeq (sFor (iSeq (eLst (aCons (eC (.non)) (aCons (eC (.int 0)) (aCons (eB listD (aCons (eVar 9) aNil)) (aCons (e2 addD (eVar 9) (eTup (aCons (eTup (aCons (eC (.int 1)) (aCons (eC (.int 1)) aNil))) aNil))) (aCons (e2 addD (eVar 9) (eTup (aCons (eC (.int 0)) (aCons (eC (.int 0)) aNil)))) (aCons (eC (.str "")) aNil)))))))) (gNm 7) f3_law)
  (sSeq (sSet 8 (eLst (aCons (eTup (aCons (eC (.non)) (aCons (eC (.str "form")) aNil))) (aCons (eTup (aCons (eMake "Book" w_Book_init (aCons (eTup aNil) (aCons (e2 ixD (eVar 4) (eC (.str "makers"))) (aCons (e2 ixD (eVar 4) (eC (.str "rules"))) aNil)))) (aCons (eC (.str "relations")) aNil))) (aCons (eTup (aCons (eMake "Book" w_Book_init (aCons (e2 ixD (eVar 4) (eC (.str "relations"))) (aCons (eC (.non)) (aCons (e2 ixD (eVar 4) (eC (.str "rules"))) aNil)))) (aCons (eC (.str "makers")) aNil))) aNil)))))
  (sSeq (sSet 8 (e2 addD (eVar 8) (eLst (aCons (eTup (aCons (eMake "Book" w_Book_init (aCons (e2 ixD (eVar 4) (eC (.str "relations"))) (aCons (e2 ixD (eVar 4) (eC (.str "makers"))) (aCons (eC (.non)) aNil)))) (aCons (eC (.str "form")) aNil))) (aCons (eTup (aCons (eVar 9) (aCons (eC (.str "form")) aNil))) aNil)))))
  (sSeq (sFor (iSeq (eVar 8)) (gTp 2 (gsCons (gNm 7) (gsCons (gNm 15) gsNil))) f4_law)
  (sSeq (sExpr (eAppend (eVar 2) (eTup (aCons (eCall w_law_said (aCons (eMake "PricedBook" w_PricedBook_init (aCons (eMake "Book" w_Book_init (aCons (e2 ixD (eVar 4) (eC (.str "relations"))) (aCons (e2 ixD (eVar 4) (eC (.str "makers"))) (aCons (e2 addD (e2 ixD (eVar 4) (eC (.str "rules"))) (eTup (aCons (eC (.non)) aNil))) aNil)))) (aCons (eC (.non)) aNil))) (aCons (eC (.bl false)) aNil))) (aCons (eTup (aCons (eC (.str "refused")) (aCons (eC (.str "rule")) (aCons (eVar 13) aNil)))) aNil)))))
  (sFor (iSeq (eLst (aCons (eC (.non)) (aCons (eC (.int 0)) (aCons (eC (.str "book")) (aCons (eVar 10) (aCons (eTup (aCons (eVar 10) (aCons (eVar 9) aNil))) (aCons (eLst (aCons (eVar 10) (aCons (eVar 9) aNil))) (aCons (eC (.bl true)) aNil))))))))) (gNm 7) f5_law))))))))))))))))
def t_law : TDS :=
  (sSeq (sSet 1 (eCall w_law_deal (aCons (eVar 0) (aCons (eC (.int 812)) aNil))))
  (sSeq (sSet 2 (eLst aNil))
  (sSeq (sFor (iRange1 (eC (.int 5))) (gNm 3) f6_law)
  (sRet (eCall w_law_all (aCons (eVar 2) aNil))))))
@[irreducible] def w_law : DSp := wOf 18 t_law
theorem w_law_eq : w_law = wOf 18 t_law := by unfold w_law; rfl

/-! ### what the top has written -/
def dd_InvalidBook_init : He.DefD := ⟨("InvalidBook", some "__init__"), "__init__", "InvalidBook.__init__", defArgs s_InvalidBook_init, defBody s_InvalidBook_init, defScope s_InvalidBook_init, [], []⟩
def dd_is_integer : He.DefD := ⟨("is_integer", none), "is_integer", "is_integer", defArgs s_is_integer, defBody s_is_integer, defScope s_is_integer, [], []⟩
def dd_is_number : He.DefD := ⟨("is_number", none), "is_number", "is_number", defArgs s_is_number, defBody s_is_number, defScope s_is_number, [], []⟩
def dd_are_small : He.DefD := ⟨("are_small", none), "are_small", "are_small", defArgs s_are_small, defBody s_are_small, defScope s_are_small, [], []⟩
def dd_is_name : He.DefD := ⟨("is_name", none), "is_name", "is_name", defArgs s_is_name, defBody s_is_name, defScope s_is_name, [], []⟩
def dd_is_tuple : He.DefD := ⟨("is_tuple", none), "is_tuple", "is_tuple", defArgs s_is_tuple, defBody s_is_tuple, defScope s_is_tuple, [], []⟩
def dd_common_divisor : He.DefD := ⟨("common_divisor", none), "common_divisor", "common_divisor", defArgs s_common_divisor, defBody s_common_divisor, defScope s_common_divisor, [], []⟩
def dd_is_fraction : He.DefD := ⟨("is_fraction", none), "is_fraction", "is_fraction", defArgs s_is_fraction, defBody s_is_fraction, defScope s_is_fraction, [], []⟩
def dd_is_price : He.DefD := ⟨("is_price", none), "is_price", "is_price", defArgs s_is_price, defBody s_is_price, defScope s_is_price, [], []⟩
def dd_is_placed : He.DefD := ⟨("is_placed", none), "is_placed", "is_placed", defArgs s_is_placed, defBody s_is_placed, defScope s_is_placed, [], []⟩
def dd_first_wrong : He.DefD := ⟨("first_wrong", none), "first_wrong", "first_wrong", defArgs s_first_wrong, defBody s_first_wrong, defScope s_first_wrong, [], []⟩
def dd_is_tuple_of : He.DefD := ⟨("is_tuple_of", none), "is_tuple_of", "is_tuple_of", defArgs s_is_tuple_of, defBody s_is_tuple_of, defScope s_is_tuple_of, [], []⟩
def dd_is_ascending : He.DefD := ⟨("is_ascending", none), "is_ascending", "is_ascending", defArgs s_is_ascending, defBody s_is_ascending, defScope s_is_ascending, [], []⟩
def dd_is_sign : He.DefD := ⟨("is_sign", none), "is_sign", "is_sign", defArgs s_is_sign, defBody s_is_sign, defScope s_is_sign, [], []⟩
def dd_many_of : He.DefD := ⟨("many_of", none), "many_of", "many_of", defArgs s_many_of, defBody s_many_of, defScope s_many_of, [], []⟩
def dd_term_fault : He.DefD := ⟨("term_fault", none), "term_fault", "term_fault", defArgs s_term_fault, defBody s_term_fault, defScope s_term_fault, [], []⟩
def dd_is_term : He.DefD := ⟨("is_term", none), "is_term", "is_term", defArgs s_is_term, defBody s_is_term, defScope s_is_term, [], []⟩
def dd_are_placed : He.DefD := ⟨("are_placed", none), "are_placed", "are_placed", defArgs s_are_placed, defBody s_are_placed, defScope s_are_placed, [], []⟩
def dd_are_makers_signs : He.DefD := ⟨("are_makers_signs", none), "are_makers_signs", "are_makers_signs", defArgs s_are_makers_signs, defBody s_are_makers_signs, defScope s_are_makers_signs, [], []⟩
def dd_is_rule_line : He.DefD := ⟨("is_rule_line", none), "is_rule_line", "is_rule_line", defArgs s_is_rule_line, defBody s_is_rule_line, defScope s_is_rule_line, [], []⟩
def dd_is_rule : He.DefD := ⟨("is_rule", none), "is_rule", "is_rule", defArgs s_is_rule, defBody s_is_rule, defScope s_is_rule, [], []⟩
def dd_shared_name : He.DefD := ⟨("shared_name", none), "shared_name", "shared_name", defArgs s_shared_name, defBody s_shared_name, defScope s_shared_name, [], []⟩
def dd_book_fault : He.DefD := ⟨("book_fault", none), "book_fault", "book_fault", defArgs s_book_fault, defBody s_book_fault, defScope s_book_fault, [], []⟩
def dd_Book_init : He.DefD := ⟨("Book", some "__init__"), "__init__", "Book.__init__", defArgs s_Book_init, defBody s_Book_init, defScope s_Book_init, [], []⟩
def dd_Book___eq__ : He.DefD := ⟨("Book", some "__eq__"), "__eq__", "Book.__eq__", defArgs s_Book___eq__, defBody s_Book___eq__, defScope s_Book___eq__, [], []⟩
def dd_need_book : He.DefD := ⟨("need_book", none), "need_book", "need_book", defArgs s_need_book, defBody s_need_book, defScope s_need_book, [], []⟩
def dd_PricedBook_init : He.DefD := ⟨("PricedBook", some "__init__"), "__init__", "PricedBook.__init__", defArgs s_PricedBook_init, defBody s_PricedBook_init, defScope s_PricedBook_init, [], []⟩
def dd_PricedBook___eq__ : He.DefD := ⟨("PricedBook", some "__eq__"), "__eq__", "PricedBook.__eq__", defArgs s_PricedBook___eq__, defBody s_PricedBook___eq__, defScope s_PricedBook___eq__, [], []⟩
def dd_need_priced : He.DefD := ⟨("need_priced", none), "need_priced", "need_priced", defArgs s_need_priced, defBody s_need_priced, defScope s_need_priced, [], []⟩
def dd_all_alike : He.DefD := ⟨("all_alike", none), "all_alike", "all_alike", defArgs s_all_alike, defBody s_all_alike, defScope s_all_alike, [], []⟩
def dd_repriced : He.DefD := ⟨("repriced", none), "repriced", "repriced", defArgs s_repriced, defBody s_repriced, defScope s_repriced, [], []⟩
def dd_law_deal : He.DefD := ⟨("_law_deal", none), "_law_deal", "_law_deal", defArgs s_law_deal, defBody s_law_deal, defScope s_law_deal, [], []⟩
def dd_law_any : He.DefD := ⟨("_law_any", none), "_law_any", "_law_any", defArgs s_law_any, defBody s_law_any, defScope s_law_any, [], []⟩
def dd_law_of : He.DefD := ⟨("_law_of", none), "_law_of", "_law_of", defArgs s_law_of, defBody s_law_of, defScope s_law_of, [], []⟩
def dd_law_is_kind : He.DefD := ⟨("_law_is_kind", none), "_law_is_kind", "_law_is_kind", defArgs s_law_is_kind, defBody s_law_is_kind, defScope s_law_is_kind, [], []⟩
def dd_law_same : He.DefD := ⟨("_law_same", none), "_law_same", "_law_same", defArgs s_law_same, defBody s_law_same, defScope s_law_same, [], []⟩
def dd_law_all : He.DefD := ⟨("_law_all", none), "_law_all", "_law_all", defArgs s_law_all, defBody s_law_all, defScope s_law_all, [], []⟩
def dd_law_mixed : He.DefD := ⟨("_law_mixed", none), "_law_mixed", "_law_mixed", defArgs s_law_mixed, defBody s_law_mixed, defScope s_law_mixed, [], []⟩
def dd_law_name : He.DefD := ⟨("_law_name", none), "_law_name", "_law_name", defArgs s_law_name, defBody s_law_name, defScope s_law_name, [], []⟩
def dd_law_drawn_term : He.DefD := ⟨("_law_drawn_term", none), "_law_drawn_term", "_law_drawn_term", defArgs s_law_drawn_term, defBody s_law_drawn_term, defScope s_law_drawn_term, [], []⟩
def dd_law_kit : He.DefD := ⟨("_law_kit", none), "_law_kit", "_law_kit", defArgs s_law_kit, defBody s_law_kit, defScope s_law_kit, [], []⟩
def dd_law_drawn_rule : He.DefD := ⟨("_law_drawn_rule", none), "_law_drawn_rule", "_law_drawn_rule", defArgs s_law_drawn_rule, defBody s_law_drawn_rule, defScope s_law_drawn_rule, [], []⟩
def dd_law_drawn_kit : He.DefD := ⟨("_law_drawn_kit", none), "_law_drawn_kit", "_law_drawn_kit", defArgs s_law_drawn_kit, defBody s_law_drawn_kit, defScope s_law_drawn_kit, [], []⟩
def dd_law_book : He.DefD := ⟨("_law_book", none), "_law_book", "_law_book", defArgs s_law_book, defBody s_law_book, defScope s_law_book, [], []⟩
def dd_law_parts_of : He.DefD := ⟨("_law_parts_of", none), "_law_parts_of", "_law_parts_of", defArgs s_law_parts_of, defBody s_law_parts_of, defScope s_law_parts_of, [], []⟩
def dd_law_price : He.DefD := ⟨("_law_price", none), "_law_price", "_law_price", defArgs s_law_price, defBody s_law_price, defScope s_law_price, [], []⟩
def dd_law_said : He.DefD := ⟨("_law_said", none), "_law_said", "_law_said", defArgs s_law_said, defBody s_law_said, defScope s_law_said, [], []⟩
def dd_law_parts_told : He.DefD := ⟨("_law_parts_told", none), "_law_parts_told", "_law_parts_told", defArgs s_law_parts_told, defBody s_law_parts_told, defScope s_law_parts_told, [], []⟩
def dd_law : He.DefD := ⟨("law", none), "law", "law", defArgs s_law, defBody s_law, defScope s_law, [], []⟩
def fns : List He.DefD := [dd_InvalidBook_init, dd_is_integer, dd_is_number, dd_are_small, dd_is_name, dd_is_tuple, dd_common_divisor, dd_is_fraction, dd_is_price, dd_is_placed, dd_first_wrong, dd_is_tuple_of, dd_is_ascending, dd_is_sign, dd_many_of, dd_term_fault, dd_is_term, dd_are_placed, dd_are_makers_signs, dd_is_rule_line, dd_is_rule, dd_shared_name, dd_book_fault, dd_Book_init, dd_Book___eq__, dd_need_book, dd_PricedBook_init, dd_PricedBook___eq__, dd_need_priced, dd_all_alike, dd_repriced, dd_law_deal, dd_law_any, dd_law_of, dd_law_is_kind, dd_law_same, dd_law_all, dd_law_mixed, dd_law_name, dd_law_drawn_term, dd_law_kit, dd_law_drawn_rule, dd_law_drawn_kit, dd_law_book, dd_law_parts_of, dd_law_price, dd_law_said, dd_law_parts_told, dd_law]
def fas : List He.Fa := [.glo "InvalidBook", .cls "PricedBook", .cls "Book", .free "isinstance", .free "int", .free "bool", .glo "is_integer", .glo "is_number", .glo "are_small", .free "str", .free "len", .glo "is_name", .free "tuple", .glo "is_tuple", .free "abs", .glo "common_divisor", .glo "is_fraction", .glo "is_price", .glo "is_placed", .free "enumerate", .glo "first_wrong", .glo "is_tuple_of", .free "range", .glo "is_ascending", .glo "is_sign", .free "max", .glo "many_of", .glo "term_fault", .glo "is_term", .glo "are_placed", .glo "are_makers_signs", .glo "is_rule_line", .glo "is_rule", .glo "shared_name", .noat "Book" "rules", .noat "Book" "relations", .noat "Book" "makers", .glo "book_fault", .glo "Book", .mkr "Book", .glo "need_book", .noat "PricedBook" "book", .noat "PricedBook" "prices", .glo "PricedBook", .mkr "PricedBook", .glo "need_priced", .glo "all_alike", .glo "repriced", .glo "_law_deal", .glo "_law_any", .glo "_law_of", .glo "_law_is_kind", .free "list", .free "dict", .glo "_law_same", .glo "_law_all", .glo "_law_mixed", .glo "_law_name", .glo "_law_drawn_term", .free "sorted", .glo "_law_kit", .glo "_law_drawn_rule", .glo "_law_drawn_kit", .glo "_law_book", .glo "_law_parts_of", .glo "_law_price", .glo "BookError", .glo "_law_said", .glo "_law_parts_told", .free "min", .glo "law"]
def css : List CS := [.con "SMALL" c_SMALL, .con "MOST_SIGNS" c_MOST_SIGNS, .con "VARIABLE" c_VARIABLE, .exc "InvalidBook", .exf "InvalidBook" "word", .exf "InvalidBook" "at", .ins "PricedBook", .kit (.inr "PricedBook") (.inl "int") false, .ins "Book", .kit (.inr "Book") (.inl "int") false, .kit (.inr "PricedBook") (.inl "bool") false, .kit (.inr "Book") (.inl "bool") false, .kit (.inr "PricedBook") (.inl "str") false, .kit (.inr "Book") (.inl "str") false, .kit (.inr "PricedBook") (.inl "tuple") false, .kit (.inr "Book") (.inl "tuple") false, .kit (.inr "PricedBook") (.inr "Book") false, .kit (.inr "Book") (.inr "Book") true, .kit (.inl "NoneType") (.inr "Book") false, .kit (.inl "bool") (.inr "Book") false, .kit (.inl "int") (.inr "Book") false, .kit (.inl "str") (.inr "Book") false, .kit (.inl "tuple") (.inr "Book") false, .kit (.inl "list") (.inr "Book") false, .kit (.inr "PricedBook") (.inr "PricedBook") true, .kit (.inr "Book") (.inr "PricedBook") false, .kit (.inl "NoneType") (.inr "PricedBook") false, .kit (.inl "bool") (.inr "PricedBook") false, .kit (.inl "int") (.inr "PricedBook") false, .kit (.inl "str") (.inr "PricedBook") false, .kit (.inl "tuple") (.inr "PricedBook") false, .kit (.inl "list") (.inr "PricedBook") false, .nof "Book" (.inr "PricedBook"), .nof "Book" (.inr "Book"), .nof "Book" (.inl "NoneType"), .nof "Book" (.inl "bool"), .nof "Book" (.inl "int"), .nof "Book" (.inl "str"), .nof "Book" (.inl "tuple"), .nof "Book" (.inl "list"), .mth "Book" "__eq__", .exm "InvalidBook" "BookError" true, .xfc "InvalidBook", .exm "InvalidBook" "InvalidBook" true, .nof "PricedBook" (.inr "PricedBook"), .nof "PricedBook" (.inr "Book"), .nof "PricedBook" (.inl "NoneType"), .nof "PricedBook" (.inl "bool"), .nof "PricedBook" (.inl "int"), .nof "PricedBook" (.inl "str"), .nof "PricedBook" (.inl "tuple"), .nof "PricedBook" (.inl "list"), .mth "PricedBook" "__eq__"]
abbrev TX (K : PySem.W.Frag) (mg : Str → Option Value) : Prop := Tx fas fns css K mg
/-! ### each def keeps its reading -/
section
variable [PWd] {K : PySem.W.Frag} {mg : Str → Option Value} {base : Heap}
theorem sc_InvalidBook_init : FnScope ["self", "word", "at"] ["self", "word", "at"] (defScope s_InvalidBook_init) := ⟨rfl, rfl, rfl, by decide +kernel, rfl, by decide +kernel, by decide +kernel⟩
theorem exc_InvalidBook (T : TX K mg) : ExcOk PWd.P PWd.w K mg base "InvalidBook" 1 ["word", "at"] :=
  T.excD2 (T.glo 0) (T.exc 3) 0 rfl sc_InvalidBook_init (fun _ _ _ _ _ _ us hl => match us, hl with | [_, _, _], _ => rfl) fun cdv A outer s H E => (pss_cons (DLX.ps_fldE (T.exc 3) (T.exf 4) (pe_var (i := 0) rfl (.inl rfl)) (pe_var (i := 1) rfl (.inl rfl))) (pss_one (DLX.ps_fldE (T.exc 3) (T.exf 5) (pe_var (i := 0) rfl (.inl rfl)) (pe_var (i := 2) rfl (.inl rfl)))))

theorem sc_is_integer : FnScope ["value"] ["value"] (defScope s_is_integer) := ⟨rfl, rfl, rfl, by decide +kernel, rfl, by decide +kernel, by decide +kernel⟩
theorem ok_is_integer (T : TX K mg) : DefOk PWd.P PWd.w K mg base "is_integer" s_is_integer 1 ["value"] 1 w_is_integer := by
  rw [w_is_integer_eq]
  refine T.defD (T.glo 6) 1 rfl sc_is_integer rfl rfl (fun _ _ _ _ _ _ us hl => match us, hl with | [_], _ => rfl) fun cdv A outer s H E hr => ?_
  exact (ds_one (ds_ret (de_and (de_isiB 2 (isOk_b (by decide) (by decide) (all_cons ⟨T.ins 8, T.cls 2, T.kit (t := .inr "Book") (c := .inl "int") 9⟩ (all_cons ⟨T.ins 6, T.cls 1, T.kit (t := .inr "PricedBook") (c := .inl "int") 7⟩ all_nil))) (T.free 3) (T.free 4) (by decide +kernel) (de_var 0)) (pe_one (de_not (de_isiB 1 (isOk_b (by decide) (by decide) (all_cons ⟨T.ins 8, T.cls 2, T.kit (t := .inr "Book") (c := .inl "bool") 11⟩ (all_cons ⟨T.ins 6, T.cls 1, T.kit (t := .inr "PricedBook") (c := .inl "bool") 10⟩ all_nil))) (T.free 3) (T.free 5) (by decide +kernel) (de_var 0)))))))

theorem sc_is_number : FnScope ["value"] ["value"] (defScope s_is_number) := ⟨rfl, rfl, rfl, by decide +kernel, rfl, by decide +kernel, by decide +kernel⟩
theorem ok_is_number (T : TX K mg) : DefOk PWd.P PWd.w K mg base "is_number" s_is_number 2 ["value"] 1 w_is_number := by
  rw [w_is_number_eq]
  refine T.defD (T.glo 7) 2 rfl sc_is_number rfl rfl (fun _ _ _ _ _ _ us hl => match us, hl with | [_], _ => rfl) fun cdv A outer s H E hr => ?_
  exact (ds_one (ds_ret (de_and (de_fn (ok_is_integer T) (hr.mono (by decide)) tkF (da_cons (de_var 0) da_nil)) (pe_one (de_ge (de_var 0) de_int)))))

theorem sc_are_small : FnScope ["text", "sign"] ["text"] (defScope s_are_small) := ⟨rfl, rfl, rfl, by decide +kernel, rfl, by decide +kernel, by decide +kernel⟩
theorem ok_are_small (T : TX K mg) : DefOk PWd.P PWd.w K mg base "are_small" s_are_small 1 ["text"] 1 w_are_small := by
  rw [w_are_small_eq]
  refine T.defD (T.glo 8) 3 rfl sc_are_small rfl rfl (fun _ _ _ _ _ _ us hl => match us, hl with | [_], _ => rfl) fun cdv A outer s H E hr => ?_
  exact (ds_one (ds_ret (de_eqA hr (de_lc (own := [("sign", 1)]) rfl sc_are_small.nd (by dsimp only [cxOf, envOfC, compEnvC]; decide +kernel) (di_seq (de_var 0)) (fun _ _ _ _ _ => (dg_name sc_are_small.nd (by decide))) (fun _ _ _ _ _ => (dts_one (dt_notIn hr (de_var 1) (de_con (T.con 0))))) (fun _ _ _ _ _ => (de_var 1))) (de_lst da_nil))))

theorem sc_is_name : FnScope ["value"] ["value"] (defScope s_is_name) := ⟨rfl, rfl, rfl, by decide +kernel, rfl, by decide +kernel, by decide +kernel⟩
theorem ok_is_name (T : TX K mg) : DefOk PWd.P PWd.w K mg base "is_name" s_is_name 2 ["value"] 1 w_is_name := by
  rw [w_is_name_eq]
  refine T.defD (T.glo 11) 4 rfl sc_is_name rfl rfl (fun _ _ _ _ _ _ us hl => match us, hl with | [_], _ => rfl) fun cdv A outer s H E hr => ?_
  exact (ds_one (ds_ret (de_and (de_isiB 3 (isOk_b (by decide) (by decide) (all_cons ⟨T.ins 8, T.cls 2, T.kit (t := .inr "Book") (c := .inl "str") 13⟩ (all_cons ⟨T.ins 6, T.cls 1, T.kit (t := .inr "PricedBook") (c := .inl "str") 12⟩ all_nil))) (T.free 3) (T.free 9) (by decide +kernel) (de_var 0)) (de_and (de_chain op_ltS op_le br_lt br_le de_int (de_callB call_len br_len (T.free 10) PySem.boot_len (da_cons (de_var 0) da_nil)) (de_con (T.con 1))) (pe_one (de_fn (ok_are_small T) (hr.mono (by decide)) tkF (da_cons (de_var 0) da_nil)))))))

theorem sc_is_tuple : FnScope ["value", "many"] ["value", "many"] (defScope s_is_tuple) := ⟨rfl, rfl, rfl, by decide +kernel, rfl, by decide +kernel, by decide +kernel⟩
theorem ok_is_tuple (T : TX K mg) : DefOk PWd.P PWd.w K mg base "is_tuple" s_is_tuple 1 ["value", "many"] 2 w_is_tuple := by
  rw [w_is_tuple_eq]
  refine T.defD (T.glo 13) 5 rfl sc_is_tuple rfl rfl (fun _ _ _ _ _ _ us hl => match us, hl with | [_, _], _ => rfl) fun cdv A outer s H E hr => ?_
  exact (ds_one (ds_ret (de_and (de_isiB 4 (isOk_b (by decide) (by decide) (all_cons ⟨T.ins 8, T.cls 2, T.kit (t := .inr "Book") (c := .inl "tuple") 15⟩ (all_cons ⟨T.ins 6, T.cls 1, T.kit (t := .inr "PricedBook") (c := .inl "tuple") 14⟩ all_nil))) (T.free 3) (T.free 12) (by decide +kernel) (de_var 0)) (pe_one (de_eqA hr (de_callB call_len br_len (T.free 10) PySem.boot_len (da_cons (de_var 0) da_nil)) (de_var 1))))))

theorem sc_common_divisor : FnScope ["one", "other"] ["one", "other"] (defScope s_common_divisor) := ⟨rfl, rfl, rfl, by decide +kernel, rfl, by decide +kernel, by decide +kernel⟩
theorem ok_common_divisor (T : TX K mg) : DefOk PWd.P PWd.w K mg base "common_divisor" s_common_divisor 1 ["one", "other"] 2 w_common_divisor := by
  rw [w_common_divisor_eq]
  refine T.defD (T.glo 15) 6 rfl sc_common_divisor rfl rfl (fun _ _ _ _ _ _ us hl => match us, hl with | [_, _], _ => rfl) fun cdv A outer s H E hr => ?_
  exact (ds_cons (ds_par (i := 0) (j := 1) sc_common_divisor.nd rfl (da_cons (de_callB call_abs br_abs (T.free 14) (by decide +kernel) (da_cons (de_var 0) da_nil)) (da_cons (de_callB call_abs br_abs (T.free 14) (by decide +kernel) (da_cons (de_var 1) da_nil)) da_nil)))
    (ds_cons (ds_while poF (dt_neA hr (de_var 1) de_int)
    (ds_one (ds_par (i := 0) (j := 1) sc_common_divisor.nd rfl (da_cons (de_var 1) (da_cons (de_mod (de_var 0) (de_var 1)) da_nil)))))
    (ds_one (ds_ret (de_var 0)))))

theorem sc_is_fraction : FnScope ["value"] ["value"] (defScope s_is_fraction) := ⟨rfl, rfl, rfl, by decide +kernel, rfl, by decide +kernel, by decide +kernel⟩
theorem ok_is_fraction (T : TX K mg) : DefOk PWd.P PWd.w K mg base "is_fraction" s_is_fraction 2 ["value"] 1 w_is_fraction := by
  rw [w_is_fraction_eq]
  refine T.defD (T.glo 16) 7 rfl sc_is_fraction rfl rfl (fun _ _ _ _ _ _ us hl => match us, hl with | [_], _ => rfl) fun cdv A outer s H E hr => ?_
  exact (ds_cons (ds_if (L2.PW.pt (dw_or (dt_not (dt_tru (de_fn (ok_is_tuple T) (hr.mono (by decide)) tkF (da_cons (de_var 0) (da_cons de_int da_nil))))) (dw_or (dt_not (dt_tru (de_fn (ok_is_integer T) (hr.mono (by decide)) tkF (da_cons (de_ix hr (de_var 0) de_int) da_nil)))) (pw_or1 (dt_not (dt_tru (de_fn (ok_is_integer T) (hr.mono (by decide)) tkF (da_cons (de_ix hr (de_var 0) de_int) da_nil))))))))
    (ds_one (ds_ret de_bl))
    ds_nil)
    (ds_one (ds_ret (de_and (de_ge (de_ix hr (de_var 0) de_int) de_int) (pe_one (de_eqA hr (de_fn (ok_common_divisor T) (hr.mono (by decide)) tkF (da_cons (de_ix hr (de_var 0) de_int) (da_cons (de_ix hr (de_var 0) de_int) da_nil))) de_int))))))

theorem sc_is_price : FnScope ["value"] ["value"] (defScope s_is_price) := ⟨rfl, rfl, rfl, by decide +kernel, rfl, by decide +kernel, by decide +kernel⟩
theorem ok_is_price (T : TX K mg) : DefOk PWd.P PWd.w K mg base "is_price" s_is_price 3 ["value"] 1 w_is_price := by
  rw [w_is_price_eq]
  refine T.defD (T.glo 17) 8 rfl sc_is_price rfl rfl (fun _ _ _ _ _ _ us hl => match us, hl with | [_], _ => rfl) fun cdv A outer s H E hr => ?_
  exact (ds_one (ds_ret (de_and (de_fn (ok_is_fraction T) (hr.mono (by decide)) tkF (da_cons (de_var 0) da_nil)) (pe_one (de_ge (de_ix hr (de_var 0) de_int) de_int)))))

theorem sc_is_placed : FnScope ["value"] ["value"] (defScope s_is_placed) := ⟨rfl, rfl, rfl, by decide +kernel, rfl, by decide +kernel, by decide +kernel⟩
theorem ok_is_placed (T : TX K mg) : DefOk PWd.P PWd.w K mg base "is_placed" s_is_placed 3 ["value"] 1 w_is_placed := by
  rw [w_is_placed_eq]
  refine T.defD (T.glo 18) 9 rfl sc_is_placed rfl rfl (fun _ _ _ _ _ _ us hl => match us, hl with | [_], _ => rfl) fun cdv A outer s H E hr => ?_
  exact (ds_one (ds_ret (de_and (de_fn (ok_is_tuple T) (hr.mono (by decide)) tkF (da_cons (de_var 0) (da_cons de_int da_nil))) (de_and (de_fn (ok_is_name T) (hr.mono (by decide)) tkF (da_cons (de_ix hr (de_var 0) de_int) da_nil)) (pe_one (de_fn (ok_is_number T) (hr.mono (by decide)) tkF (da_cons (de_ix hr (de_var 0) de_int) da_nil)))))))

theorem sc_first_wrong : FnScope ["values", "test", "at", "value"] ["values", "test"] (defScope s_first_wrong) := ⟨rfl, rfl, rfl, by decide +kernel, rfl, by decide +kernel, by decide +kernel⟩
theorem ok_first_wrong (T : TX K mg) : DefOk PWd.P PWd.w K mg base "first_wrong" s_first_wrong 4 ["values", "test"] 2 w_first_wrong := by
  rw [w_first_wrong_eq]
  refine T.defD (T.glo 20) 10 rfl sc_first_wrong rfl rfl (fun _ _ _ _ _ _ us hl => match us, hl with | [_, _], _ => rfl) fun cdv A outer s H E hr => ?_
  exact (ds_cons (ds_for (vs := [2, 3]) poF rfl (di_enum (T.free 19) (de_var 0)) (dg_tup rfl (dgs_cons (dg_name sc_first_wrong.nd (by decide)) (dgs_cons (dg_name sc_first_wrong.nd (by decide)) dgs_nil)))
    (ds_one (ds_if (dt_not (dt_tru (de_callF (i := 1) (fns_cons (ok_is_price T) (hr.mono (by decide)) (fns_cons (ok_is_placed T) (hr.mono (by decide)) fns_nil)) (da_cons (de_var 3) da_nil))))
    (ds_one (ds_ret (de_var 2)))
    ds_nil)))
    (ds_one (ds_ret (de_neg de_int))))

theorem sc_is_tuple_of : FnScope ["value", "test"] ["value", "test"] (defScope s_is_tuple_of) := ⟨rfl, rfl, rfl, by decide +kernel, rfl, by decide +kernel, by decide +kernel⟩
theorem ok_is_tuple_of (T : TX K mg) : DefOk PWd.P PWd.w K mg base "is_tuple_of" s_is_tuple_of 5 ["value", "test"] 2 w_is_tuple_of := by
  rw [w_is_tuple_of_eq]
  refine T.defD (T.glo 21) 11 rfl sc_is_tuple_of rfl rfl (fun _ _ _ _ _ _ us hl => match us, hl with | [_, _], _ => rfl) fun cdv A outer s H E hr => ?_
  exact (ds_one (ds_ret (de_and (de_isiB 4 (isOk_b (by decide) (by decide) (all_cons ⟨T.ins 8, T.cls 2, T.kit (t := .inr "Book") (c := .inl "tuple") 15⟩ (all_cons ⟨T.ins 6, T.cls 1, T.kit (t := .inr "PricedBook") (c := .inl "tuple") 14⟩ all_nil))) (T.free 3) (T.free 12) (by decide +kernel) (de_var 0)) (pe_one (de_lt (de_fn (ok_first_wrong T) (hr.mono (by decide)) tkF (da_cons (de_var 0) (da_cons (de_var 1) da_nil))) de_int)))))

theorem sc_is_ascending : FnScope ["values", "at"] ["values"] (defScope s_is_ascending) := ⟨rfl, rfl, rfl, by decide +kernel, rfl, by decide +kernel, by decide +kernel⟩
theorem ok_is_ascending (T : TX K mg) : DefOk PWd.P PWd.w K mg base "is_ascending" s_is_ascending 1 ["values"] 1 w_is_ascending := by
  rw [w_is_ascending_eq]
  refine T.defD (T.glo 23) 12 rfl sc_is_ascending rfl rfl (fun _ _ _ _ _ _ us hl => match us, hl with | [_], _ => rfl) fun cdv A outer s H E hr => ?_
  exact (ds_cons (ds_for (vs := [1]) poF rfl (di_range1 (T.free 22) (de_sub (de_callB call_len br_len (T.free 10) PySem.boot_len (da_cons (de_var 0) da_nil)) de_int)) (dg_name sc_is_ascending.nd (by decide))
    (ds_one (ds_if (dt_not (dt_lt (de_ix hr (de_var 0) (de_var 1)) (de_ix hr (de_var 0) (de_add (de_var 1) de_int))))
    (ds_one (ds_ret de_bl))
    ds_nil)))
    (ds_one (ds_ret de_bl)))

theorem sc_is_sign : FnScope ["value"] ["value"] (defScope s_is_sign) := ⟨rfl, rfl, rfl, by decide +kernel, rfl, by decide +kernel, by decide +kernel⟩
theorem ok_is_sign (T : TX K mg) : DefOk PWd.P PWd.w K mg base "is_sign" s_is_sign 3 ["value"] 1 w_is_sign := by
  rw [w_is_sign_eq]
  refine T.defD (T.glo 24) 13 rfl sc_is_sign rfl rfl (fun _ _ _ _ _ _ us hl => match us, hl with | [_], _ => rfl) fun cdv A outer s H E hr => ?_
  exact (ds_one (ds_ret (de_and (de_fn (ok_is_tuple T) (hr.mono (by decide)) tkF (da_cons (de_var 0) (da_cons de_int da_nil))) (de_and (de_fn (ok_is_name T) (hr.mono (by decide)) tkF (da_cons (de_ix hr (de_var 0) de_int) da_nil)) (de_and (de_fn (ok_is_integer T) (hr.mono (by decide)) tkF (da_cons (de_ix hr (de_var 0) de_int) da_nil)) (pe_one (de_ge (de_ix hr (de_var 0) de_int) (de_con (T.con 2)))))))))

theorem sc_many_of : FnScope ["sign"] ["sign"] (defScope s_many_of) := ⟨rfl, rfl, rfl, by decide +kernel, rfl, by decide +kernel, by decide +kernel⟩
theorem ok_many_of (T : TX K mg) : DefOk PWd.P PWd.w K mg base "many_of" s_many_of 1 ["sign"] 1 w_many_of := by
  rw [w_many_of_eq]
  refine T.defD (T.glo 26) 14 rfl sc_many_of rfl rfl (fun _ _ _ _ _ _ us hl => match us, hl with | [_], _ => rfl) fun cdv A outer s H E hr => ?_
  exact (ds_one (ds_ret (de_callB (call_max2 rfl) br_max (T.free 25) (by decide +kernel) (da_cons (de_ix hr (de_var 0) de_int) (da_cons de_int da_nil)))))

theorem sc_term_fault : FnScope ["value", "due", "at", "member"] ["value"] (defScope s_term_fault) := ⟨rfl, rfl, rfl, by decide +kernel, rfl, by decide +kernel, by decide +kernel⟩
theorem ok_term_fault (T : TX K mg) : DefOk PWd.P PWd.w K mg base "term_fault" s_term_fault 4 ["value"] 1 w_term_fault := by
  rw [w_term_fault_eq]
  refine T.defD (T.glo 27) 15 rfl sc_term_fault rfl rfl (fun _ _ _ _ _ _ us hl => match us, hl with | [_], _ => rfl) fun cdv A outer s H E hr => ?_
  exact (ds_cons (ds_if (dt_not (dt_tru (de_isiB 4 (isOk_b (by decide) (by decide) (all_cons ⟨T.ins 8, T.cls 2, T.kit (t := .inr "Book") (c := .inl "tuple") 15⟩ (all_cons ⟨T.ins 6, T.cls 1, T.kit (t := .inr "PricedBook") (c := .inl "tuple") 14⟩ all_nil))) (T.free 3) (T.free 12) (by decide +kernel) (de_var 0))))
    (ds_one (ds_ret (de_neg de_int)))
    ds_nil)
    (ds_cons (ds_set (i := 1) sc_term_fault.nd de_int)
    (ds_cons (ds_for (vs := [2, 3]) poF rfl (di_enum (T.free 19) (de_var 0)) (dg_tup rfl (dgs_cons (dg_name sc_term_fault.nd (by decide)) (dgs_cons (dg_name sc_term_fault.nd (by decide)) dgs_nil)))
    (ds_cons (ds_if (L2.PW.pt (dw_or (dt_eqA hr (de_var 1) de_int) (pw_or1 (dt_not (dt_tru (de_fn (ok_is_sign T) (hr.mono (by decide)) tkF (da_cons (de_var 3) da_nil)))))))
    (ds_one (ds_ret (de_var 2)))
    ds_nil)
    (ds_one (ds_augAdd (i := 1) sc_term_fault.nd (de_sub (de_fn (ok_many_of T) (hr.mono (by decide)) tkF (da_cons (de_var 3) da_nil)) de_int)))))
    (ds_one (ds_ret (de_if (dt_eqA hr (de_var 1) de_int) de_non (de_callB call_len br_len (T.free 10) PySem.boot_len (da_cons (de_var 0) da_nil))))))))

theorem sc_is_term : FnScope ["value"] ["value"] (defScope s_is_term) := ⟨rfl, rfl, rfl, by decide +kernel, rfl, by decide +kernel, by decide +kernel⟩
theorem ok_is_term (T : TX K mg) : DefOk PWd.P PWd.w K mg base "is_term" s_is_term 5 ["value"] 1 w_is_term := by
  rw [w_is_term_eq]
  refine T.defD (T.glo 28) 16 rfl sc_is_term rfl rfl (fun _ _ _ _ _ _ us hl => match us, hl with | [_], _ => rfl) fun cdv A outer s H E hr => ?_
  exact (ds_one (ds_ret (de_isN (de_fn (ok_term_fault T) (hr.mono (by decide)) tkF (da_cons (de_var 0) da_nil)))))

theorem sc_are_placed : FnScope ["value", "least", "_", "many", "name"] ["value", "least"] (defScope s_are_placed) := ⟨rfl, rfl, rfl, by decide +kernel, rfl, by decide +kernel, by decide +kernel⟩
theorem ok_are_placed (T : TX K mg) : DefOk PWd.P PWd.w K mg base "are_placed" s_are_placed 6 ["value", "least"] 2 w_are_placed := by
  rw [w_are_placed_eq]
  refine T.defD (T.glo 29) 17 rfl sc_are_placed rfl rfl (fun _ _ _ _ _ _ us hl => match us, hl with | [_, _], _ => rfl) fun cdv A outer s H E hr => ?_
  exact (ds_cons (ds_if (L2.PW.pt (dw_or (dt_not (dt_tru (de_fn (ok_is_tuple_of T) (hr.mono (by decide)) tkF (da_cons (de_var 0) (da_cons (de_fname (T.glo 18)) da_nil))))) (pw_or1 (dt_not (dt_tru (de_fn (ok_is_ascending T) (hr.mono (by decide)) tkF (da_cons (de_lc (own := [("name", 4), ("_", 2)]) rfl sc_are_placed.nd (by dsimp only [cxOf, envOfC, compEnvC]; decide +kernel) (di_seq (de_var 0)) (fun _ _ _ _ _ => (dg_tup rfl (dgs_cons (dg_name sc_are_placed.nd (by decide)) (dgs_cons (dg_name sc_are_placed.nd (by decide)) dgs_nil)))) (fun _ _ _ _ _ => dts_nil) (fun _ _ _ _ _ => (de_var 4))) da_nil)))))))
    (ds_one (ds_ret de_bl))
    ds_nil)
    (ds_one (ds_ret (de_eqA hr (de_lc (own := [("_", 2), ("many", 3)]) rfl sc_are_placed.nd (by dsimp only [cxOf, envOfC, compEnvC]; decide +kernel) (di_seq (de_var 0)) (fun _ _ _ _ _ => (dg_tup rfl (dgs_cons (dg_name sc_are_placed.nd (by decide)) (dgs_cons (dg_name sc_are_placed.nd (by decide)) dgs_nil)))) (fun _ _ _ _ _ => (dts_one (dt_lt (de_var 3) (de_var 1)))) (fun _ _ _ _ _ => (de_var 3))) (de_lst da_nil)))))

theorem sc_are_makers_signs : FnScope ["makers", "term", "sign"] ["makers", "term"] (defScope s_are_makers_signs) := ⟨rfl, rfl, rfl, by decide +kernel, rfl, by decide +kernel, by decide +kernel⟩
theorem ok_are_makers_signs (T : TX K mg) : DefOk PWd.P PWd.w K mg base "are_makers_signs" s_are_makers_signs 1 ["makers", "term"] 2 w_are_makers_signs := by
  rw [w_are_makers_signs_eq]
  refine T.defD (T.glo 30) 18 rfl sc_are_makers_signs rfl rfl (fun _ _ _ _ _ _ us hl => match us, hl with | [_, _], _ => rfl) fun cdv A outer s H E hr => ?_
  exact (ds_one (ds_ret (de_eqA hr (de_lc (own := [("sign", 2)]) rfl sc_are_makers_signs.nd (by dsimp only [cxOf, envOfC, compEnvC]; decide +kernel) (di_seq (de_var 1)) (fun _ _ _ _ _ => (dg_name sc_are_makers_signs.nd (by decide))) (fun _ _ _ _ _ => (dts_one (L2.PW.pt (dw_and (dt_neA hr (de_ix hr (de_var 2) de_int) (de_con (T.con 2))) (pw_and1 (dt_notIn hr (de_var 2) (de_var 0))))))) (fun _ _ _ _ _ => (de_var 2))) (de_lst da_nil))))

theorem sc_is_rule_line : FnScope ["relations", "makers", "value", "term"] ["relations", "makers", "value"] (defScope s_is_rule_line) := ⟨rfl, rfl, rfl, by decide +kernel, rfl, by decide +kernel, by decide +kernel⟩
theorem ok_is_rule_line (T : TX K mg) : DefOk PWd.P PWd.w K mg base "is_rule_line" s_is_rule_line 6 ["relations", "makers", "value"] 3 w_is_rule_line := by
  rw [w_is_rule_line_eq]
  refine T.defD (T.glo 31) 19 rfl sc_is_rule_line rfl rfl (fun _ _ _ _ _ _ us hl => match us, hl with | [_, _, _], _ => rfl) fun cdv A outer s H E hr => ?_
  exact (ds_cons (ds_if (L2.PW.pt (dw_or (dt_not (dt_tru (de_fn (ok_is_tuple T) (hr.mono (by decide)) tkF (da_cons (de_var 2) (da_cons de_int da_nil))))) (dw_or (dt_not (dt_tru (de_fn (ok_is_name T) (hr.mono (by decide)) tkF (da_cons (de_ix hr (de_var 2) de_int) da_nil)))) (pw_or1 (dt_not (dt_tru (de_isiB 4 (isOk_b (by decide) (by decide) (all_cons ⟨T.ins 8, T.cls 2, T.kit (t := .inr "Book") (c := .inl "tuple") 15⟩ (all_cons ⟨T.ins 6, T.cls 1, T.kit (t := .inr "PricedBook") (c := .inl "tuple") 14⟩ all_nil))) (T.free 3) (T.free 12) (by decide +kernel) (de_ix hr (de_var 2) de_int))))))))
    (ds_one (ds_ret de_bl))
    ds_nil)
    (ds_cons (ds_if (dt_notIn hr (de_tup (da_cons (de_ix hr (de_var 2) de_int) (da_cons (de_callB call_len br_len (T.free 10) PySem.boot_len (da_cons (de_ix hr (de_var 2) de_int) da_nil)) da_nil))) (de_var 0))
    (ds_one (ds_ret de_bl))
    ds_nil)
    (ds_one (ds_ret (de_eqA hr (de_lc (own := [("term", 3)]) rfl sc_is_rule_line.nd (by dsimp only [cxOf, envOfC, compEnvC]; decide +kernel) (di_seq (de_ix hr (de_var 2) de_int)) (fun _ _ _ _ _ => (dg_name sc_is_rule_line.nd (by decide))) (fun _ _ _ _ _ => (dts_one (L2.PW.pt (dw_or (dt_not (dt_tru (de_fn (ok_is_term T) (hr.mono (by decide)) takes0 (da_cons (de_var 3) da_nil)))) (pw_or1 (dt_not (dt_tru (de_fn (ok_are_makers_signs T) (hr.mono (by decide)) takes0 (da_cons (de_var 1) (da_cons (de_var 3) da_nil)))))))))) (fun _ _ _ _ _ => (de_var 3))) (de_lst da_nil))))))

theorem sc_is_rule : FnScope ["relations", "makers", "value", "line"] ["relations", "makers", "value"] (defScope s_is_rule) := ⟨rfl, rfl, rfl, by decide +kernel, rfl, by decide +kernel, by decide +kernel⟩
theorem ok_is_rule (T : TX K mg) : DefOk PWd.P PWd.w K mg base "is_rule" s_is_rule 7 ["relations", "makers", "value"] 3 w_is_rule := by
  rw [w_is_rule_eq]
  refine T.defD (T.glo 32) 20 rfl sc_is_rule rfl rfl (fun _ _ _ _ _ _ us hl => match us, hl with | [_, _, _], _ => rfl) fun cdv A outer s H E hr => ?_
  exact (ds_cons (ds_if (L2.PW.pt (dw_or (dt_not (dt_tru (de_fn (ok_is_tuple T) (hr.mono (by decide)) tkF (da_cons (de_var 2) (da_cons de_int da_nil))))) (pw_or1 (dt_not (dt_tru (de_isiB 4 (isOk_b (by decide) (by decide) (all_cons ⟨T.ins 8, T.cls 2, T.kit (t := .inr "Book") (c := .inl "tuple") 15⟩ (all_cons ⟨T.ins 6, T.cls 1, T.kit (t := .inr "PricedBook") (c := .inl "tuple") 14⟩ all_nil))) (T.free 3) (T.free 12) (by decide +kernel) (de_ix hr (de_var 2) de_int)))))))
    (ds_one (ds_ret de_bl))
    ds_nil)
    (ds_one (ds_ret (de_eqA hr (de_lc (own := [("line", 3)]) rfl sc_is_rule.nd (by dsimp only [cxOf, envOfC, compEnvC]; decide +kernel) (di_seq (de_add (de_ix hr (de_var 2) de_int) (de_slice (de_var 2) (do_some de_int) do_none))) (fun _ _ _ _ _ => (dg_name sc_is_rule.nd (by decide))) (fun _ _ _ _ _ => (dts_one (dt_not (dt_tru (de_fn (ok_is_rule_line T) (hr.mono (by decide)) takes0 (da_cons (de_var 0) (da_cons (de_var 1) (da_cons (de_var 3) da_nil)))))))) (fun _ _ _ _ _ => (de_var 3))) (de_lst da_nil)))))

theorem sc_shared_name : FnScope ["relations", "makers", "names", "number", "maker", "name", "_"] ["relations", "makers"] (defScope s_shared_name) := ⟨rfl, rfl, rfl, by decide +kernel, rfl, by decide +kernel, by decide +kernel⟩
theorem ok_shared_name (T : TX K mg) : DefOk PWd.P PWd.w K mg base "shared_name" s_shared_name 1 ["relations", "makers"] 2 w_shared_name := by
  rw [w_shared_name_eq]
  refine T.defD (T.glo 33) 21 rfl sc_shared_name rfl rfl (fun _ _ _ _ _ _ us hl => match us, hl with | [_, _], _ => rfl) fun cdv A outer s H E hr => ?_
  exact (ds_cons (ds_setDc (i := 2) (own := [("name", 5), ("_", 6)]) rfl sc_shared_name.nd (by dsimp only [cxOf, envOfC, compEnvC]; decide +kernel) (by decide +kernel) (di_seq (de_var 0)) (fun _ _ _ _ _ => (dg_tup rfl (dgs_cons (dg_name sc_shared_name.nd (by decide)) (dgs_cons (dg_name sc_shared_name.nd (by decide)) dgs_nil)))) (fun _ _ _ _ _ => dts_nil) (fun _ _ _ _ _ => (de_var 5)) (fun _ _ _ _ _ => de_bl))
    (ds_cons (ds_for (vs := [3, 4]) poF rfl (di_enum (T.free 19) (de_var 1)) (dg_tup rfl (dgs_cons (dg_name sc_shared_name.nd (by decide)) (dgs_cons (dg_name sc_shared_name.nd (by decide)) dgs_nil)))
    (ds_one (ds_if (dt_in hr (de_ix hr (de_var 4) de_int) (de_var 2))
    (ds_one (ds_ret (de_var 3)))
    ds_nil)))
    (ds_one (ds_ret (de_neg de_int)))))

theorem sc_book_fault : FnScope ["book", "at", "number", "rule"] ["book"] (defScope s_book_fault) := ⟨rfl, rfl, rfl, by decide +kernel, rfl, by decide +kernel, by decide +kernel⟩
theorem ok_book_fault (T : TX K mg) : DefOk PWd.P PWd.w K mg base "book_fault" s_book_fault 8 ["book"] 1 w_book_fault := by
  rw [w_book_fault_eq]
  refine T.defD (T.glo 37) 22 rfl sc_book_fault rfl rfl (fun _ _ _ _ _ _ us hl => match us, hl with | [_], _ => rfl) fun cdv A outer s H E hr => ?_
  exact (ds_cons (ds_if (dt_not (dt_tru (de_isiB 4 (isOk_b (by decide) (by decide) (all_cons ⟨T.ins 8, T.cls 2, T.kit (t := .inr "Book") (c := .inl "tuple") 15⟩ (all_cons ⟨T.ins 6, T.cls 1, T.kit (t := .inr "PricedBook") (c := .inl "tuple") 14⟩ all_nil))) (T.free 3) (T.free 12) (by decide +kernel) (de_fld (clsOk_cons (T.cls 2) (T.noat 34) clsOk_nil) (de_var 0)))))
    (ds_one (ds_ret (de_tup (da_cons de_str (da_cons (de_neg de_int) da_nil)))))
    ds_nil)
    (ds_cons (ds_if (L2.PW.pt (dw_or (dt_not (dt_tru (de_fn (ok_are_placed T) (hr.mono (by decide)) tkF (da_cons (de_fld (clsOk_cons (T.cls 2) (T.noat 35) clsOk_nil) (de_var 0)) (da_cons de_int da_nil))))) (pw_or1 (dt_eqA hr (de_fld (clsOk_cons (T.cls 2) (T.noat 35) clsOk_nil) (de_var 0)) (de_tup da_nil)))))
    (ds_one (ds_ret (de_tup (da_cons de_str (da_cons (de_neg de_int) da_nil)))))
    ds_nil)
    (ds_cons (ds_if (dt_not (dt_tru (de_fn (ok_are_placed T) (hr.mono (by decide)) tkF (da_cons (de_fld (clsOk_cons (T.cls 2) (T.noat 36) clsOk_nil) (de_var 0)) (da_cons de_int da_nil)))))
    (ds_one (ds_ret (de_tup (da_cons de_str (da_cons (de_neg de_int) da_nil)))))
    ds_nil)
    (ds_cons (ds_set (i := 1) sc_book_fault.nd (de_fn (ok_shared_name T) (hr.mono (by decide)) tkF (da_cons (de_fld (clsOk_cons (T.cls 2) (T.noat 35) clsOk_nil) (de_var 0)) (da_cons (de_fld (clsOk_cons (T.cls 2) (T.noat 36) clsOk_nil) (de_var 0)) da_nil))))
    (ds_cons (ds_if (dt_ge (de_var 1) de_int)
    (ds_one (ds_ret (de_tup (da_cons de_str (da_cons (de_var 1) da_nil)))))
    ds_nil)
    (ds_cons (ds_for (vs := [2, 3]) poF rfl (di_enum (T.free 19) (de_fld (clsOk_cons (T.cls 2) (T.noat 34) clsOk_nil) (de_var 0))) (dg_tup rfl (dgs_cons (dg_name sc_book_fault.nd (by decide)) (dgs_cons (dg_name sc_book_fault.nd (by decide)) dgs_nil)))
    (ds_one (ds_if (dt_not (dt_tru (de_fn (ok_is_rule T) (hr.mono (by decide)) tkF (da_cons (de_fld (clsOk_cons (T.cls 2) (T.noat 35) clsOk_nil) (de_var 0)) (da_cons (de_fld (clsOk_cons (T.cls 2) (T.noat 36) clsOk_nil) (de_var 0)) (da_cons (de_var 3) da_nil))))))
    (ds_one (ds_ret (de_tup (da_cons de_str (da_cons (de_var 2) da_nil)))))
    ds_nil)))
    (ds_one (ds_ret de_non))))))))

theorem sc_Book_init : FnScope ["self", "relations", "makers", "rules"] ["self", "relations", "makers", "rules"] (defScope s_Book_init) := ⟨rfl, rfl, rfl, by decide +kernel, rfl, by decide +kernel, by decide +kernel⟩
theorem okS_Book_init (T : TX K mg) : MakOkS PWd.P PWd.w K mg base "Book" "Book.__init__" s_Book_init 1 ["self", "relations", "makers", "rules"] 4 w_Book_init := by
  rw [w_Book_init_eq]
  refine T.makS (T.glo 38) (T.mkr 39) 23 rfl sc_Book_init rfl rfl (fun _ _ _ _ _ _ us hl => match us, hl with | [_, _, _, _], _ => rfl) fun cdv A outer s H E hr => ?_
  exact (ds_cons (ds_fld (clsOk_cons (T.cls 2) (T.noat 35) clsOk_nil) (de_var 0) (de_var 1))
    (ds_cons (ds_fld (clsOk_cons (T.cls 2) (T.noat 36) clsOk_nil) (de_var 0) (de_var 2))
    (ds_one (ds_fld (clsOk_cons (T.cls 2) (T.noat 34) clsOk_nil) (de_var 0) (de_var 3)))))
theorem ok_Book_init (T : TX K mg) : MakOk PWd.P PWd.w K mg base "Book" 1 ["self", "relations", "makers", "rules"] 4 w_Book_init := (okS_Book_init T).to

theorem sc_Book___eq__ : FnScope ["self", "other"] ["self", "other"] (defScope s_Book___eq__) := ⟨rfl, rfl, rfl, by decide +kernel, rfl, by decide +kernel, by decide +kernel⟩
theorem ok_Book___eq__ (T : TX K mg) : MthOk PWd.P PWd.w K mg base "Book" "__eq__" 1 ["self", "other"] 2 w_Book___eq__ := by
  rw [w_Book___eq___eq]
  refine T.mthD 24 rfl sc_Book___eq__ rfl rfl (fun _ _ _ _ _ _ us hl => match us, hl with | [_, _], _ => rfl) fun cdv A outer s H E hr => ?_
  exact (ds_cons (ds_if (dt_not (dt_tru (de_isiC (isOk_c (all_cons ⟨T.ins 8, T.cls 2, T.kit (t := .inr "Book") (c := .inr "Book") 17⟩ (all_cons ⟨T.ins 6, T.cls 1, T.kit (t := .inr "PricedBook") (c := .inr "Book") 16⟩ all_nil)) (T.kit (t := .inl "NoneType") (c := .inr "Book") 18) (T.kit (t := .inl "bool") (c := .inr "Book") 19) (T.kit (t := .inl "int") (c := .inr "Book") 20) (T.kit (t := .inl "str") (c := .inr "Book") 21) (T.kit (t := .inl "tuple") (c := .inr "Book") 22) (T.kit (t := .inl "list") (c := .inr "Book") 23)) (T.free 3) (T.glo 38) (de_var 1))))
    (ds_one (ds_ret de_bl))
    ds_nil)
    (ds_one (ds_ret (de_and (de_eqA hr (de_fld (clsOk_cons (T.cls 2) (T.noat 35) clsOk_nil) (de_var 0)) (de_fld (clsOk_cons (T.cls 2) (T.noat 35) clsOk_nil) (de_var 1))) (de_and (de_eqA hr (de_fld (clsOk_cons (T.cls 2) (T.noat 36) clsOk_nil) (de_var 0)) (de_fld (clsOk_cons (T.cls 2) (T.noat 36) clsOk_nil) (de_var 1))) (pe_one (de_eqA hr (de_fld (clsOk_cons (T.cls 2) (T.noat 34) clsOk_nil) (de_var 0)) (de_fld (clsOk_cons (T.cls 2) (T.noat 34) clsOk_nil) (de_var 1)))))))))

theorem sc_need_book : FnScope ["value", "fault"] ["value"] (defScope s_need_book) := ⟨rfl, rfl, rfl, by decide +kernel, rfl, by decide +kernel, by decide +kernel⟩
theorem ok_need_book (T : TX K mg) : DefOk PWd.P PWd.w K mg base "need_book" s_need_book 9 ["value"] 1 w_need_book := by
  rw [w_need_book_eq]
  refine T.defD (T.glo 40) 25 rfl sc_need_book rfl rfl (fun _ _ _ _ _ _ us hl => match us, hl with | [_], _ => rfl) fun cdv A outer s H E hr => ?_
  exact (ds_cons (ds_if (dt_not (dt_tru (de_isiC (isOk_c (all_cons ⟨T.ins 8, T.cls 2, T.kit (t := .inr "Book") (c := .inr "Book") 17⟩ (all_cons ⟨T.ins 6, T.cls 1, T.kit (t := .inr "PricedBook") (c := .inr "Book") 16⟩ all_nil)) (T.kit (t := .inl "NoneType") (c := .inr "Book") 18) (T.kit (t := .inl "bool") (c := .inr "Book") 19) (T.kit (t := .inl "int") (c := .inr "Book") 20) (T.kit (t := .inl "str") (c := .inr "Book") 21) (T.kit (t := .inl "tuple") (c := .inr "Book") 22) (T.kit (t := .inl "list") (c := .inr "Book") 23)) (T.free 3) (T.glo 38) (de_var 0))))
    (ds_one (ds_raise (fields := ["word", "at"]) (exc_InvalidBook T) (hr.mono (by decide)) rfl tkF rfl (da_cons de_str (da_cons (de_neg de_int) da_nil))))
    ds_nil)
    (ds_cons (ds_set (i := 1) sc_need_book.nd (de_fn (ok_book_fault T) (hr.mono (by decide)) tkF (da_cons (de_var 0) da_nil)))
    (ds_one (ds_if (dt_notN (de_var 1))
    (ds_one (ds_raise (fields := ["word", "at"]) (exc_InvalidBook T) (hr.mono (by decide)) rfl tkF rfl (da_cons (de_ix hr (de_var 1) de_int) (da_cons (de_ix hr (de_var 1) de_int) da_nil))))
    ds_nil))))

theorem sc_PricedBook_init : FnScope ["self", "book", "prices"] ["self", "book", "prices"] (defScope s_PricedBook_init) := ⟨rfl, rfl, rfl, by decide +kernel, rfl, by decide +kernel, by decide +kernel⟩
theorem okS_PricedBook_init (T : TX K mg) : MakOkS PWd.P PWd.w K mg base "PricedBook" "PricedBook.__init__" s_PricedBook_init 1 ["self", "book", "prices"] 3 w_PricedBook_init := by
  rw [w_PricedBook_init_eq]
  refine T.makS (T.glo 43) (T.mkr 44) 26 rfl sc_PricedBook_init rfl rfl (fun _ _ _ _ _ _ us hl => match us, hl with | [_, _, _], _ => rfl) fun cdv A outer s H E hr => ?_
  exact (ds_cons (ds_fld (clsOk_cons (T.cls 1) (T.noat 41) clsOk_nil) (de_var 0) (de_var 1))
    (ds_one (ds_fld (clsOk_cons (T.cls 1) (T.noat 42) clsOk_nil) (de_var 0) (de_var 2))))
theorem ok_PricedBook_init (T : TX K mg) : MakOk PWd.P PWd.w K mg base "PricedBook" 1 ["self", "book", "prices"] 3 w_PricedBook_init := (okS_PricedBook_init T).to

theorem sc_PricedBook___eq__ : FnScope ["self", "other"] ["self", "other"] (defScope s_PricedBook___eq__) := ⟨rfl, rfl, rfl, by decide +kernel, rfl, by decide +kernel, by decide +kernel⟩
theorem ok_PricedBook___eq__ (T : TX K mg) : MthOk PWd.P PWd.w K mg base "PricedBook" "__eq__" 2 ["self", "other"] 2 w_PricedBook___eq__ := by
  rw [w_PricedBook___eq___eq]
  refine T.mthD 27 rfl sc_PricedBook___eq__ rfl rfl (fun _ _ _ _ _ _ us hl => match us, hl with | [_, _], _ => rfl) fun cdv A outer s H E hr => ?_
  exact (ds_one (ds_ret (de_and (de_isiC (isOk_c (all_cons ⟨T.ins 8, T.cls 2, T.kit (t := .inr "Book") (c := .inr "PricedBook") 25⟩ (all_cons ⟨T.ins 6, T.cls 1, T.kit (t := .inr "PricedBook") (c := .inr "PricedBook") 24⟩ all_nil)) (T.kit (t := .inl "NoneType") (c := .inr "PricedBook") 26) (T.kit (t := .inl "bool") (c := .inr "PricedBook") 27) (T.kit (t := .inl "int") (c := .inr "PricedBook") 28) (T.kit (t := .inl "str") (c := .inr "PricedBook") 29) (T.kit (t := .inl "tuple") (c := .inr "PricedBook") 30) (T.kit (t := .inl "list") (c := .inr "PricedBook") 31)) (T.free 3) (T.glo 43) (de_var 1)) (de_and (de_eqOwn (eqOk_mk (all_cons ⟨T.ins 8, T.cls 2, T.nof (t := .inr "Book") 33⟩ (all_cons ⟨T.ins 6, T.cls 1, T.nof (t := .inr "PricedBook") 32⟩ all_nil)) (T.nof (t := .inl "NoneType") 34) (T.nof (t := .inl "bool") 35) (T.nof (t := .inl "int") 36) (T.nof (t := .inl "str") 37) (T.nof (t := .inl "tuple") 38) (T.nof (t := .inl "list") 39) (T.mth 40)) (ok_Book___eq__ T) (hr.mono (by decide)) (de_fld (clsOk_cons (T.cls 1) (T.noat 41) clsOk_nil) (de_var 0)) (de_fld (clsOk_cons (T.cls 1) (T.noat 41) clsOk_nil) (de_var 1))) (pe_one (de_eqA hr (de_fld (clsOk_cons (T.cls 1) (T.noat 42) clsOk_nil) (de_var 0)) (de_fld (clsOk_cons (T.cls 1) (T.noat 42) clsOk_nil) (de_var 1))))))))

theorem sc_need_priced : FnScope ["value", "at"] ["value"] (defScope s_need_priced) := ⟨rfl, rfl, rfl, by decide +kernel, rfl, by decide +kernel, by decide +kernel⟩
theorem ok_need_priced (T : TX K mg) : DefOk PWd.P PWd.w K mg base "need_priced" s_need_priced 10 ["value"] 1 w_need_priced := by
  rw [w_need_priced_eq]
  refine T.defD (T.glo 45) 28 rfl sc_need_priced rfl rfl (fun _ _ _ _ _ _ us hl => match us, hl with | [_], _ => rfl) fun cdv A outer s H E hr => ?_
  exact (ds_cons (ds_if (dt_not (dt_tru (de_isiC (isOk_c (all_cons ⟨T.ins 8, T.cls 2, T.kit (t := .inr "Book") (c := .inr "PricedBook") 25⟩ (all_cons ⟨T.ins 6, T.cls 1, T.kit (t := .inr "PricedBook") (c := .inr "PricedBook") 24⟩ all_nil)) (T.kit (t := .inl "NoneType") (c := .inr "PricedBook") 26) (T.kit (t := .inl "bool") (c := .inr "PricedBook") 27) (T.kit (t := .inl "int") (c := .inr "PricedBook") 28) (T.kit (t := .inl "str") (c := .inr "PricedBook") 29) (T.kit (t := .inl "tuple") (c := .inr "PricedBook") 30) (T.kit (t := .inl "list") (c := .inr "PricedBook") 31)) (T.free 3) (T.glo 43) (de_var 0))))
    (ds_one (ds_raise (fields := ["word", "at"]) (exc_InvalidBook T) (hr.mono (by decide)) rfl tkF rfl (da_cons de_str (da_cons (de_neg de_int) da_nil))))
    ds_nil)
    (ds_cons (ds_expr (de_fn (ok_need_book T) (hr.mono (by decide)) tkF (da_cons (de_fld (clsOk_cons (T.cls 1) (T.noat 41) clsOk_nil) (de_var 0)) da_nil)))
    (ds_cons (ds_if (dt_not (dt_tru (de_fn (ok_is_tuple T) (hr.mono (by decide)) tkF (da_cons (de_fld (clsOk_cons (T.cls 1) (T.noat 42) clsOk_nil) (de_var 0)) (da_cons (de_callB call_len br_len (T.free 10) PySem.boot_len (da_cons (de_fld (clsOk_cons (T.cls 2) (T.noat 34) clsOk_nil) (de_fld (clsOk_cons (T.cls 1) (T.noat 41) clsOk_nil) (de_var 0))) da_nil)) da_nil)))))
    (ds_one (ds_raise (fields := ["word", "at"]) (exc_InvalidBook T) (hr.mono (by decide)) rfl tkF rfl (da_cons de_str (da_cons (de_neg de_int) da_nil))))
    ds_nil)
    (ds_cons (ds_set (i := 1) sc_need_priced.nd (de_fn (ok_first_wrong T) (hr.mono (by decide)) tkF (da_cons (de_fld (clsOk_cons (T.cls 1) (T.noat 42) clsOk_nil) (de_var 0)) (da_cons (de_fname (T.glo 17)) da_nil))))
    (ds_one (ds_if (dt_ge (de_var 1) de_int)
    (ds_one (ds_raise (fields := ["word", "at"]) (exc_InvalidBook T) (hr.mono (by decide)) rfl tkF rfl (da_cons de_str (da_cons (de_var 1) da_nil))))
    ds_nil))))))

theorem sc_all_alike : FnScope ["book", "price"] ["book", "price"] (defScope s_all_alike) := ⟨rfl, rfl, rfl, by decide +kernel, rfl, by decide +kernel, by decide +kernel⟩
theorem ok_all_alike (T : TX K mg) : DefOk PWd.P PWd.w K mg base "all_alike" s_all_alike 3 ["book", "price"] 2 w_all_alike := by
  rw [w_all_alike_eq]
  refine T.defD (T.glo 46) 29 rfl sc_all_alike rfl rfl (fun _ _ _ _ _ _ us hl => match us, hl with | [_, _], _ => rfl) fun cdv A outer s H E hr => ?_
  exact (ds_one (ds_ret (de_make (ok_PricedBook_init T) (hr.mono (by decide)) tkF (da_cons (de_var 0) (da_cons (de_mul (de_tup (da_cons (de_var 1) da_nil)) (de_callB call_len br_len (T.free 10) PySem.boot_len (da_cons (de_fld (clsOk_cons (T.cls 2) (T.noat 34) clsOk_nil) (de_var 0)) da_nil))) da_nil)))))

theorem sc_repriced : FnScope ["priced", "number", "price"] ["priced", "number", "price"] (defScope s_repriced) := ⟨rfl, rfl, rfl, by decide +kernel, rfl, by decide +kernel, by decide +kernel⟩
theorem ok_repriced (T : TX K mg) : DefOk PWd.P PWd.w K mg base "repriced" s_repriced 3 ["priced", "number", "price"] 3 w_repriced := by
  rw [w_repriced_eq]
  refine T.defD (T.glo 47) 30 rfl sc_repriced rfl rfl (fun _ _ _ _ _ _ us hl => match us, hl with | [_, _, _], _ => rfl) fun cdv A outer s H E hr => ?_
  exact (ds_one (ds_ret (de_make (ok_PricedBook_init T) (hr.mono (by decide)) tkF (da_cons (de_fld (clsOk_cons (T.cls 1) (T.noat 41) clsOk_nil) (de_var 0)) (da_cons (de_add (de_add (de_slice (de_fld (clsOk_cons (T.cls 1) (T.noat 42) clsOk_nil) (de_var 0)) do_none (do_some (de_var 1))) (de_tup (da_cons (de_var 2) da_nil))) (de_slice (de_fld (clsOk_cons (T.cls 1) (T.noat 42) clsOk_nil) (de_var 0)) (do_some (de_add (de_var 1) de_int)) do_none)) da_nil)))))

theorem sc_law_deal : FnScope ["script", "salt", "most", "cells", "mix", "cell"] ["script", "salt"] (defScope s_law_deal) := ⟨rfl, rfl, rfl, by decide +kernel, rfl, by decide +kernel, by decide +kernel⟩
theorem ok_law_deal (T : TX K mg) : DefOk PWd.P PWd.w K mg base "_law_deal" s_law_deal 1 ["script", "salt"] 2 w_law_deal := by
  rw [w_law_deal_eq]
  refine T.defD (T.glo 48) 31 rfl sc_law_deal rfl rfl (fun _ _ _ _ _ _ us hl => match us, hl with | [_, _], _ => rfl) fun cdv A outer s H E hr => ?_
  exact (ds_cons (ds_set (i := 2) sc_law_deal.nd (de_mul (de_mul (de_mul (de_mul (de_mul (de_pow de_int de_int) (de_pow de_int de_int)) (de_pow de_int de_int)) (de_pow de_int de_int)) (de_pow de_int de_int)) (de_pow de_int de_int)))
    (ds_cons (ds_setLc (i := 3) (own := [("cell", 5)]) rfl sc_law_deal.nd (by dsimp only [cxOf, envOfC, compEnvC]; decide +kernel) (by decide +kernel) (di_seq (de_slice (de_var 0) do_none (do_some de_int))) (fun _ _ _ _ _ => (dg_name sc_law_deal.nd (by decide))) (fun _ _ _ _ _ => dts_nil) (fun _ _ _ _ _ => (de_mod (de_callTy call_int1 br_int (T.free 4) PyProof.Rows.boot_int (da_cons (de_callB call_abs br_abs (T.free 14) (by decide +kernel) (da_cons (de_callTy call_int1 br_int (T.free 4) PyProof.Rows.boot_int (da_cons (de_var 5) da_nil)) da_nil)) da_nil)) (de_var 2))))
    (ds_cons (ds_set (i := 4) sc_law_deal.nd (de_add de_int (de_mul de_int (de_var 1))))
    (ds_cons (ds_for (vs := [5]) poF rfl (di_seq (de_var 3)) (dg_name sc_law_deal.nd (by decide))
    (ds_one (ds_set (i := 4) sc_law_deal.nd (de_mod (de_callTy call_int1 br_int (T.free 4) PyProof.Rows.boot_int (da_cons (de_add (de_add (de_mul (de_var 4) de_int) (de_mod (de_callTy call_int1 br_int (T.free 4) PyProof.Rows.boot_int (da_cons (de_var 5) da_nil)) de_int)) de_int) da_nil)) de_int))))
    (ds_one (ds_ret (de_lst (da_cons (de_rev (de_lc (own := [("cell", 5)]) rfl sc_law_deal.nd (by dsimp only [cxOf, envOfC, compEnvC]; decide +kernel) (di_seq (de_var 3)) (fun _ _ _ _ _ => (dg_name sc_law_deal.nd (by decide))) (fun _ _ _ _ _ => (dts_one (dt_ge (de_var 5) (de_pow de_int de_int)))) (fun _ _ _ _ _ => (de_var 5)))) (da_cons (de_var 4) da_nil)))))))))

theorem sc_law_any : FnScope ["deal", "bound", "rest"] ["deal", "bound"] (defScope s_law_any) := ⟨rfl, rfl, rfl, by decide +kernel, rfl, by decide +kernel, by decide +kernel⟩
theorem ok_law_any (T : TX K mg) : DefOk PWd.P PWd.w K mg base "_law_any" s_law_any 1 ["deal", "bound"] 2 w_law_any := by
  rw [w_law_any_eq]
  refine T.defD (T.glo 49) 32 rfl sc_law_any rfl rfl (fun _ _ _ _ _ _ us hl => match us, hl with | [_, _], _ => rfl) fun cdv A outer s H E hr => ?_
  exact (ds_cons (ds_while poF (L2.PW.pt (dw_and (dt_gt (de_callB call_len br_len (T.free 10) PySem.boot_len (da_cons (de_ix hr (de_var 0) de_int) da_nil)) de_int) (pw_and1 (dt_eqA hr (de_ix hr (de_ix hr (de_var 0) de_int) (de_neg de_int)) de_int))))
    (ds_one (ds_expr (de_pop (de_ix hr (de_var 0) de_int)))))
    (ds_cons (ds_if (dt_gt (de_callB call_len br_len (T.free 10) PySem.boot_len (da_cons (de_ix hr (de_var 0) de_int) da_nil)) de_int)
    (ds_cons (ds_set (i := 2) sc_law_any.nd (de_callTy call_int1 br_int (T.free 4) PyProof.Rows.boot_int (da_cons (de_pop (de_ix hr (de_var 0) de_int)) da_nil)))
    (ds_cons (ds_expr (de_append (de_ix hr (de_var 0) de_int) (de_div (de_var 2) (de_var 1))))
    (ds_one (ds_ret (de_mod (de_var 2) (de_var 1))))))
    ds_nil)
    (ds_cons (ds_setIx hr (de_mod (de_callTy call_int1 br_int (T.free 4) PyProof.Rows.boot_int (da_cons (de_add (de_mul (de_ix hr (de_var 0) de_int) de_int) de_int) da_nil)) de_int) (de_var 0) de_int)
    (ds_one (ds_ret (de_mod (de_callTy call_int1 br_int (T.free 4) PyProof.Rows.boot_int (da_cons (de_div (de_ix hr (de_var 0) de_int) de_int) da_nil)) (de_var 1)))))))

theorem sc_law_of : FnScope ["deal", "some"] ["deal", "some"] (defScope s_law_of) := ⟨rfl, rfl, rfl, by decide +kernel, rfl, by decide +kernel, by decide +kernel⟩
theorem ok_law_of (T : TX K mg) : DefOk PWd.P PWd.w K mg base "_law_of" s_law_of 2 ["deal", "some"] 2 w_law_of := by
  rw [w_law_of_eq]
  refine T.defD (T.glo 50) 33 rfl sc_law_of rfl rfl (fun _ _ _ _ _ _ us hl => match us, hl with | [_, _], _ => rfl) fun cdv A outer s H E hr => ?_
  exact (ds_one (ds_ret (de_ix hr (de_var 1) (de_fn (ok_law_any T) (hr.mono (by decide)) tkF (da_cons (de_var 0) (da_cons (de_callB call_len br_len (T.free 10) PySem.boot_len (da_cons (de_var 1) da_nil)) da_nil))))))

theorem sc_law_is_kind : FnScope ["told", "due"] ["told", "due"] (defScope s_law_is_kind) := ⟨rfl, rfl, rfl, by decide +kernel, rfl, by decide +kernel, by decide +kernel⟩
theorem ok_law_is_kind (T : TX K mg) : DefOk PWd.P PWd.w K mg base "_law_is_kind" s_law_is_kind 1 ["told", "due"] 2 w_law_is_kind := by
  rw [w_law_is_kind_eq]
  refine T.defD (T.glo 51) 34 rfl sc_law_is_kind rfl rfl (fun _ _ _ _ _ _ us hl => match us, hl with | [_, _], _ => rfl) fun cdv A outer s H E hr => ?_
  exact (ds_cons (ds_if (dt_isN (de_var 1))
    (ds_one (ds_ret (de_isN (de_var 0))))
    ds_nil)
    (ds_cons (ds_if (L2.PW.pt (dw_or (dt_isB (de_var 1)) (pw_or1 (dt_isB (de_var 1)))))
    (ds_one (ds_ret (de_if (dt_tru (de_var 1)) (de_isB (de_var 0)) (de_isB (de_var 0)))))
    ds_nil)
    (ds_cons (ds_if (dt_tru (de_isiB 3 (isOk_b (by decide) (by decide) (all_cons ⟨T.ins 8, T.cls 2, T.kit (t := .inr "Book") (c := .inl "str") 13⟩ (all_cons ⟨T.ins 6, T.cls 1, T.kit (t := .inr "PricedBook") (c := .inl "str") 12⟩ all_nil))) (T.free 3) (T.free 9) (by decide +kernel) (de_var 1)))
    (ds_one (ds_ret (de_and (de_isiB 3 (isOk_b (by decide) (by decide) (all_cons ⟨T.ins 8, T.cls 2, T.kit (t := .inr "Book") (c := .inl "str") 13⟩ (all_cons ⟨T.ins 6, T.cls 1, T.kit (t := .inr "PricedBook") (c := .inl "str") 12⟩ all_nil))) (T.free 3) (T.free 9) (by decide +kernel) (de_var 0)) (pe_one (de_eqA hr (de_var 0) (de_var 1))))))
    ds_nil)
    (ds_one (ds_ret (de_and (de_isiB 2 (isOk_b (by decide) (by decide) (all_cons ⟨T.ins 8, T.cls 2, T.kit (t := .inr "Book") (c := .inl "int") 9⟩ (all_cons ⟨T.ins 6, T.cls 1, T.kit (t := .inr "PricedBook") (c := .inl "int") 7⟩ all_nil))) (T.free 3) (T.free 4) (by decide +kernel) (de_var 0)) (de_and (de_not (de_isiB 1 (isOk_b (by decide) (by decide) (all_cons ⟨T.ins 8, T.cls 2, T.kit (t := .inr "Book") (c := .inl "bool") 11⟩ (all_cons ⟨T.ins 6, T.cls 1, T.kit (t := .inr "PricedBook") (c := .inl "bool") 10⟩ all_nil))) (T.free 3) (T.free 5) (by decide +kernel) (de_var 0))) (pe_one (de_eqA hr (de_var 0) (de_var 1))))))))))

theorem sc_law_same : FnScope ["told", "due", "todo", "one", "other", "at"] ["told", "due"] (defScope s_law_same) := ⟨rfl, rfl, rfl, by decide +kernel, rfl, by decide +kernel, by decide +kernel⟩
theorem ok_law_same (T : TX K mg) : DefOk PWd.P PWd.w K mg base "_law_same" s_law_same 2 ["told", "due"] 2 w_law_same := by
  rw [w_law_same_eq]
  refine T.defD (T.glo 54) 35 rfl sc_law_same rfl rfl (fun _ _ _ _ _ _ us hl => match us, hl with | [_, _], _ => rfl) fun cdv A outer s H E hr => ?_
  exact (ds_cons (ds_set (i := 2) sc_law_same.nd (de_lst (da_cons (de_tup (da_cons (de_var 0) (da_cons (de_var 1) da_nil))) da_nil)))
    (ds_cons (ds_while poF (dt_gt (de_callB call_len br_len (T.free 10) PySem.boot_len (da_cons (de_var 2) da_nil)) de_int)
    (ds_cons (ds_asg (vs := [3, 4]) (de_pop (de_var 2)) (dg_tup rfl (dgs_cons (dg_name sc_law_same.nd (by decide)) (dgs_cons (dg_name sc_law_same.nd (by decide)) dgs_nil))))
    (ds_one (ds_if (dt_tru (de_isiB 4 (isOk_b (by decide) (by decide) (all_cons ⟨T.ins 8, T.cls 2, T.kit (t := .inr "Book") (c := .inl "tuple") 15⟩ (all_cons ⟨T.ins 6, T.cls 1, T.kit (t := .inr "PricedBook") (c := .inl "tuple") 14⟩ all_nil))) (T.free 3) (T.free 12) (by decide +kernel) (de_var 4)))
    (ds_cons (ds_if (L2.PW.pt (dw_or (dt_not (dt_tru (de_isiB 4 (isOk_b (by decide) (by decide) (all_cons ⟨T.ins 8, T.cls 2, T.kit (t := .inr "Book") (c := .inl "tuple") 15⟩ (all_cons ⟨T.ins 6, T.cls 1, T.kit (t := .inr "PricedBook") (c := .inl "tuple") 14⟩ all_nil))) (T.free 3) (T.free 12) (by decide +kernel) (de_var 3)))) (pw_or1 (dt_neA hr (de_callB call_len br_len (T.free 10) PySem.boot_len (da_cons (de_var 3) da_nil)) (de_callB call_len br_len (T.free 10) PySem.boot_len (da_cons (de_var 4) da_nil))))))
    (ds_one (ds_ret de_bl))
    ds_nil)
    (ds_one (ds_for (vs := [5]) poF rfl (di_range1 (T.free 22) (de_callB call_len br_len (T.free 10) PySem.boot_len (da_cons (de_var 4) da_nil))) (dg_name sc_law_same.nd (by decide))
    (ds_one (ds_expr (de_append (de_var 2) (de_tup (da_cons (de_ix hr (de_var 3) (de_var 5)) (da_cons (de_ix hr (de_var 4) (de_var 5)) da_nil)))))))))
    (ds_one (ds_if (L2.PW.pt (dw_or (dt_tru (de_isi3 4 5 6 (by decide) (by decide) (by decide) (T.free 3) (T.free 12) (T.free 52) (T.free 53) (by decide +kernel) (by decide +kernel) (by decide +kernel) (de_var 3))) (pw_or1 (dt_not (dt_tru (de_fn (ok_law_is_kind T) (hr.mono (by decide)) tkF (da_cons (de_var 3) (da_cons (de_var 4) da_nil))))))))
    (ds_one (ds_ret de_bl))
    ds_nil))))))
    (ds_one (ds_ret de_bl))))

theorem sc_law_all : FnScope ["pairs", "told", "due"] ["pairs"] (defScope s_law_all) := ⟨rfl, rfl, rfl, by decide +kernel, rfl, by decide +kernel, by decide +kernel⟩
theorem ok_law_all (T : TX K mg) : DefOk PWd.P PWd.w K mg base "_law_all" s_law_all 3 ["pairs"] 1 w_law_all := by
  rw [w_law_all_eq]
  refine T.defD (T.glo 55) 36 rfl sc_law_all rfl rfl (fun _ _ _ _ _ _ us hl => match us, hl with | [_], _ => rfl) fun cdv A outer s H E hr => ?_
  exact (ds_one (ds_ret (de_eqA hr (de_callB call_len br_len (T.free 10) PySem.boot_len (da_cons (de_lc (own := [("told", 1), ("due", 2)]) rfl sc_law_all.nd (by dsimp only [cxOf, envOfC, compEnvC]; decide +kernel) (di_seq (de_var 0)) (fun _ _ _ _ _ => (dg_tup rfl (dgs_cons (dg_name sc_law_all.nd (by decide)) (dgs_cons (dg_name sc_law_all.nd (by decide)) dgs_nil)))) (fun _ _ _ _ _ => (dts_one (dt_not (dt_tru (de_fn (ok_law_same T) (hr.mono (by decide)) takes0 (da_cons (de_var 1) (da_cons (de_var 2) da_nil))))))) (fun _ _ _ _ _ => (de_var 1))) da_nil)) de_int)))

theorem sc_law_mixed : FnScope ["deal", "some", "turn", "left", "found"] ["deal", "some"] (defScope s_law_mixed) := ⟨rfl, rfl, rfl, by decide +kernel, rfl, by decide +kernel, by decide +kernel⟩
theorem ok_law_mixed (T : TX K mg) : DefOk PWd.P PWd.w K mg base "_law_mixed" s_law_mixed 2 ["deal", "some"] 2 w_law_mixed := by
  rw [w_law_mixed_eq]
  refine T.defD (T.glo 56) 37 rfl sc_law_mixed rfl rfl (fun _ _ _ _ _ _ us hl => match us, hl with | [_, _], _ => rfl) fun cdv A outer s H E hr => ?_
  exact (ds_cons (ds_par (i := 3) (j := 4) sc_law_mixed.nd rfl (da_cons (de_callTy call_list_of br_list (T.free 52) PyProof.Rows.boot_list (da_cons (de_var 1) da_nil)) (da_cons (de_lst da_nil) da_nil)))
    (ds_cons (ds_for (vs := [2]) poF rfl (di_range1 (T.free 22) (de_callB call_len br_len (T.free 10) PySem.boot_len (da_cons (de_var 1) da_nil))) (dg_name sc_law_mixed.nd (by decide))
    (ds_one (ds_expr (de_append (de_var 4) (de_popAt (de_var 3) (de_fn (ok_law_any T) (hr.mono (by decide)) tkF (da_cons (de_var 0) (da_cons (de_callB call_len br_len (T.free 10) PySem.boot_len (da_cons (de_var 3) da_nil)) da_nil))))))))
    (ds_one (ds_ret (de_var 4)))))

theorem sc_law_name : FnScope ["deal", "at", "turn"] ["deal", "at"] (defScope s_law_name) := ⟨rfl, rfl, rfl, by decide +kernel, rfl, by decide +kernel, by decide +kernel⟩
theorem ok_law_name (T : TX K mg) : DefOk PWd.P PWd.w K mg base "_law_name" s_law_name 3 ["deal", "at"] 2 w_law_name := by
  rw [w_law_name_eq]
  refine T.defD (T.glo 57) 38 rfl sc_law_name rfl rfl (fun _ _ _ _ _ _ us hl => match us, hl with | [_, _], _ => rfl) fun cdv A outer s H E hr => ?_
  exact (ds_one (ds_ret (de_add (de_ix hr de_str (de_var 1)) (de_join de_str (de_lc (own := [("turn", 2)]) rfl sc_law_name.nd (by dsimp only [cxOf, envOfC, compEnvC]; decide +kernel) (di_range1 (T.free 22) (de_fn (ok_law_any T) (hr.mono (by decide)) tkF (da_cons (de_var 0) (da_cons de_int da_nil)))) (fun _ _ _ _ _ => (dg_name sc_law_name.nd (by decide))) (fun _ _ _ _ _ => dts_nil) (fun _ _ _ _ _ => (de_fn (ok_law_of T) (hr.mono (by decide)) takes0 (da_cons (de_var 0) (da_cons (de_callTy (call_list_sign rfl) br_listS (T.free 52) PyProof.Rows.boot_list (da_cons de_str da_nil)) da_nil)))))))))

theorem sc_law_drawn_term : FnScope ["deal", "makers", "leaves", "most", "found", "due", "room", "some", "sign"] ["deal", "makers", "leaves", "most"] (defScope s_law_drawn_term) := ⟨rfl, rfl, rfl, by decide +kernel, rfl, by decide +kernel, by decide +kernel⟩
theorem ok_law_drawn_term (T : TX K mg) : DefOk PWd.P PWd.w K mg base "_law_drawn_term" s_law_drawn_term 3 ["deal", "makers", "leaves", "most"] 4 w_law_drawn_term := by
  rw [w_law_drawn_term_eq]
  refine T.defD (T.glo 58) 39 rfl sc_law_drawn_term rfl rfl (fun _ _ _ _ _ _ us hl => match us, hl with | [_, _, _, _], _ => rfl) fun cdv A outer s H E hr => ?_
  exact (ds_cons (ds_asg (vs := [4, 5]) (de_tup (da_cons (de_tup da_nil) (da_cons de_int da_nil))) (dg_tup rfl (dgs_cons (dg_name sc_law_drawn_term.nd (by decide)) (dgs_cons (dg_name sc_law_drawn_term.nd (by decide)) dgs_nil))))
    (ds_cons (ds_while poF (dt_gt (de_var 5) de_int)
    (ds_cons (ds_set (i := 6) sc_law_drawn_term.nd (de_sub (de_sub (de_var 3) (de_callB call_len br_len (T.free 10) PySem.boot_len (da_cons (de_var 4) da_nil))) (de_var 5)))
    (ds_cons (ds_setLc (i := 7) (own := [("sign", 8)]) rfl sc_law_drawn_term.nd (by dsimp only [cxOf, envOfC, compEnvC]; decide +kernel) (by decide +kernel) (di_seq (de_var 1)) (fun _ _ _ _ _ => (dg_name sc_law_drawn_term.nd (by decide))) (fun _ _ _ _ _ => (dts_one (dt_le (de_ix hr (de_var 8) de_int) (de_var 6)))) (fun _ _ _ _ _ => (de_var 8)))
    (ds_cons (ds_set (i := 8) sc_law_drawn_term.nd (de_if (L2.PW.pt (dw_and (dt_gt (de_callB call_len br_len (T.free 10) PySem.boot_len (da_cons (de_var 7) da_nil)) de_int) (pw_and1 (dt_gt (de_fn (ok_law_any T) (hr.mono (by decide)) tkF (da_cons (de_var 0) (da_cons de_int da_nil))) de_int)))) (de_fn (ok_law_of T) (hr.mono (by decide)) tkF (da_cons (de_var 0) (da_cons (de_var 7) da_nil))) (de_fn (ok_law_of T) (hr.mono (by decide)) tkF (da_cons (de_var 0) (da_cons (de_var 2) da_nil)))))
    (ds_one (ds_par (i := 4) (j := 5) sc_law_drawn_term.nd rfl (da_cons (de_add (de_var 4) (de_tup (da_cons (de_var 8) da_nil))) (da_cons (de_add (de_sub (de_var 5) de_int) (de_callB (call_max2 rfl) br_max (T.free 25) (by decide +kernel) (da_cons (de_ix hr (de_var 8) de_int) (da_cons de_int da_nil)))) da_nil))))))))
    (ds_one (ds_ret (de_var 4)))))

theorem sc_law_kit : FnScope ["relations", "makers", "rules"] ["relations", "makers", "rules"] (defScope s_law_kit) := ⟨rfl, rfl, rfl, by decide +kernel, rfl, by decide +kernel, by decide +kernel⟩
theorem ok_law_kit (T : TX K mg) : DefOk PWd.P PWd.w K mg base "_law_kit" s_law_kit 1 ["relations", "makers", "rules"] 3 w_law_kit := by
  rw [w_law_kit_eq]
  refine T.defD (T.glo 60) 40 rfl sc_law_kit rfl rfl (fun _ _ _ _ _ _ us hl => match us, hl with | [_, _, _], _ => rfl) fun cdv A outer s H E hr => ?_
  exact (ds_one (ds_ret (de_disp (dps_cons de_str (de_callTy call_tuple_of br_tuple (T.free 12) PyProof.Rows.boot_tuple (da_cons (de_callB (call_sortP hr) br_sort (T.free 59) (by decide +kernel) (da_cons (de_var 0) da_nil)) da_nil)) (dps_cons de_str (de_callTy call_tuple_of br_tuple (T.free 12) PyProof.Rows.boot_tuple (da_cons (de_callB (call_sortP hr) br_sort (T.free 59) (by decide +kernel) (da_cons (de_var 1) da_nil)) da_nil)) (dps_cons de_str (de_callTy call_tuple_of br_tuple (T.free 12) PyProof.Rows.boot_tuple (da_cons (de_var 2) da_nil)) dps_nil))))))

theorem sc_law_drawn_rule : FnScope ["deal", "relations", "makers", "most", "names", "leaves", "lines", "turn", "name", "relation", "many", "place"] ["deal", "relations", "makers", "most"] (defScope s_law_drawn_rule) := ⟨rfl, rfl, rfl, by decide +kernel, rfl, by decide +kernel, by decide +kernel⟩
theorem ok_law_drawn_rule (T : TX K mg) : DefOk PWd.P PWd.w K mg base "_law_drawn_rule" s_law_drawn_rule 4 ["deal", "relations", "makers", "most"] 4 w_law_drawn_rule := by
  rw [w_law_drawn_rule_eq]
  refine T.defD (T.glo 61) 41 rfl sc_law_drawn_rule rfl rfl (fun _ _ _ _ _ _ us hl => match us, hl with | [_, _, _, _], _ => rfl) fun cdv A outer s H E hr => ?_
  exact (ds_cons (ds_set (i := 4) sc_law_drawn_rule.nd (de_add (de_lst (da_cons (de_fn (ok_law_of T) (hr.mono (by decide)) tkF (da_cons (de_var 0) (da_cons (de_lst (da_cons de_str (da_cons de_str (da_cons de_str (da_cons de_str (da_cons de_str (da_cons de_str (da_cons de_str (da_cons de_str da_nil))))))))) da_nil))) da_nil)) (de_slice (de_lst (da_cons de_str (da_cons de_str (da_cons de_str da_nil)))) do_none (do_some (de_fn (ok_law_any T) (hr.mono (by decide)) tkF (da_cons (de_var 0) (da_cons de_int da_nil)))))))
    (ds_cons (ds_set (i := 5) sc_law_drawn_rule.nd (de_lc (own := [("name", 8)]) rfl sc_law_drawn_rule.nd (by dsimp only [cxOf, envOfC, compEnvC]; decide +kernel) (di_seq (de_var 4)) (fun _ _ _ _ _ => (dg_name sc_law_drawn_rule.nd (by decide))) (fun _ _ _ _ _ => dts_nil) (fun _ _ _ _ _ => (de_tup (da_cons (de_var 8) (da_cons (de_sub de_int de_int) da_nil))))))
    (ds_cons (ds_set (i := 6) sc_law_drawn_rule.nd (de_lst da_nil))
    (ds_cons (ds_for (vs := [7]) poF rfl (di_range1 (T.free 22) (de_add de_int (de_fn (ok_law_any T) (hr.mono (by decide)) tkF (da_cons (de_var 0) (da_cons (de_add (de_var 3) de_int) da_nil))))) (dg_name sc_law_drawn_rule.nd (by decide))
    (ds_cons (ds_asg (vs := [9, 10]) (de_fn (ok_law_of T) (hr.mono (by decide)) tkF (da_cons (de_var 0) (da_cons (de_var 1) da_nil))) (dg_tup rfl (dgs_cons (dg_name sc_law_drawn_rule.nd (by decide)) (dgs_cons (dg_name sc_law_drawn_rule.nd (by decide)) dgs_nil))))
    (ds_one (ds_expr (de_append (de_var 6) (de_tup (da_cons (de_var 9) (da_cons (de_callTy call_tuple_of br_tuple (T.free 12) PyProof.Rows.boot_tuple (da_cons (de_lc (own := [("place", 11)]) rfl sc_law_drawn_rule.nd (by dsimp only [cxOf, envOfC, compEnvC]; decide +kernel) (di_range1 (T.free 22) (de_var 10)) (fun _ _ _ _ _ => (dg_name sc_law_drawn_rule.nd (by decide))) (fun _ _ _ _ _ => dts_nil) (fun _ _ _ _ _ => (de_fn (ok_law_drawn_term T) (hr.mono (by decide)) takes0 (da_cons (de_var 0) (da_cons (de_var 2) (da_cons (de_var 5) (da_cons (de_add de_int (de_fn (ok_law_any T) (hr.mono (by decide)) takes0 (da_cons (de_var 0) (da_cons de_int da_nil)))) da_nil))))))) da_nil)) da_nil))))))))
    (ds_one (ds_ret (de_tup (da_cons (de_callTy call_tuple_of br_tuple (T.free 12) PyProof.Rows.boot_tuple (da_cons (de_slice (de_var 6) do_none (do_some (de_neg de_int))) da_nil)) (da_cons (de_ix hr (de_var 6) (de_neg de_int)) da_nil)))))))))

theorem sc_law_drawn_kit : FnScope ["deal", "names", "odd", "relations", "makers", "rules", "many", "made", "at", "name", "turn"] ["deal"] (defScope s_law_drawn_kit) := ⟨rfl, rfl, rfl, by decide +kernel, rfl, by decide +kernel, by decide +kernel⟩
theorem ok_law_drawn_kit (T : TX K mg) : DefOk PWd.P PWd.w K mg base "_law_drawn_kit" s_law_drawn_kit 5 ["deal"] 1 w_law_drawn_kit := by
  rw [w_law_drawn_kit_eq]
  refine T.defD (T.glo 62) 42 rfl sc_law_drawn_kit rfl rfl (fun _ _ _ _ _ _ us hl => match us, hl with | [_], _ => rfl) fun cdv A outer s H E hr => ?_
  exact (ds_cons (ds_setLc (i := 1) (own := [("at", 8)]) rfl sc_law_drawn_kit.nd (by dsimp only [cxOf, envOfC, compEnvC]; decide +kernel) (by decide +kernel) (di_seq (de_fn (ok_law_mixed T) (hr.mono (by decide)) tkF (da_cons (de_var 0) (da_cons (de_listRg (T.free 52) (T.free 22) de_int) da_nil)))) (fun _ _ _ _ _ => (dg_name sc_law_drawn_kit.nd (by decide))) (fun _ _ _ _ _ => dts_nil) (fun _ _ _ _ _ => (de_fn (ok_law_name T) (hr.mono (by decide)) takes0 (da_cons (de_var 0) (da_cons (de_var 8) da_nil)))))
    (ds_cons (ds_set (i := 2) sc_law_drawn_kit.nd (de_fn (ok_law_of T) (hr.mono (by decide)) tkF (da_cons (de_var 0) (da_cons (de_lst (da_cons (de_lst (da_cons de_str (da_cons de_str da_nil))) (da_cons (de_lst (da_cons de_str (da_cons de_str da_nil))) (da_cons (de_lst (da_cons de_str (da_cons de_str da_nil))) (da_cons (de_slice (de_var 1) (do_some de_int) do_none) da_nil))))) da_nil))))
    (ds_cons (ds_par (i := 6) (j := 7) sc_law_drawn_kit.nd rfl (da_cons (de_add de_int (de_fn (ok_law_any T) (hr.mono (by decide)) tkF (da_cons (de_var 0) (da_cons de_int da_nil)))) (da_cons (de_fn (ok_law_any T) (hr.mono (by decide)) tkF (da_cons (de_var 0) (da_cons de_int da_nil))) da_nil)))
    (ds_cons (ds_set (i := 3) sc_law_drawn_kit.nd (de_lc (own := [("name", 9)]) rfl sc_law_drawn_kit.nd (by dsimp only [cxOf, envOfC, compEnvC]; decide +kernel) (di_seq (de_slice (de_add (de_slice (de_var 2) do_none (do_some de_int)) (de_var 1)) do_none (do_some (de_var 6)))) (fun _ _ _ _ _ => (dg_name sc_law_drawn_kit.nd (by decide))) (fun _ _ _ _ _ => dts_nil) (fun _ _ _ _ _ => (de_tup (da_cons (de_var 9) (da_cons (de_add de_int (de_fn (ok_law_any T) (hr.mono (by decide)) takes0 (da_cons (de_var 0) (da_cons de_int da_nil)))) da_nil))))))
    (ds_cons (ds_set (i := 4) sc_law_drawn_kit.nd (de_lc (own := [("name", 9)]) rfl sc_law_drawn_kit.nd (by dsimp only [cxOf, envOfC, compEnvC]; decide +kernel) (di_seq (de_slice (de_add (de_slice (de_var 2) (do_some de_int) do_none) (de_slice (de_var 1) (do_some de_int) do_none)) do_none (do_some (de_var 7)))) (fun _ _ _ _ _ => (dg_name sc_law_drawn_kit.nd (by decide))) (fun _ _ _ _ _ => dts_nil) (fun _ _ _ _ _ => (de_tup (da_cons (de_var 9) (da_cons (de_fn (ok_law_any T) (hr.mono (by decide)) takes0 (da_cons (de_var 0) (da_cons de_int da_nil))) da_nil))))))
    (ds_cons (ds_setLc (i := 5) (own := [("turn", 10)]) rfl sc_law_drawn_kit.nd (by dsimp only [cxOf, envOfC, compEnvC]; decide +kernel) (by decide +kernel) (di_range1 (T.free 22) (de_fn (ok_law_of T) (hr.mono (by decide)) tkF (da_cons (de_var 0) (da_cons (de_lst (da_cons de_int (da_cons de_int (da_cons de_int (da_cons de_int (da_cons de_int da_nil)))))) da_nil)))) (fun _ _ _ _ _ => (dg_name sc_law_drawn_kit.nd (by decide))) (fun _ _ _ _ _ => dts_nil) (fun _ _ _ _ _ => (de_fn (ok_law_drawn_rule T) (hr.mono (by decide)) takes0 (da_cons (de_var 0) (da_cons (de_var 3) (da_cons (de_var 4) (da_cons de_int da_nil)))))))
    (ds_one (ds_ret (de_fn (ok_law_kit T) (hr.mono (by decide)) tkF (da_cons (de_var 3) (da_cons (de_var 4) (da_cons (de_var 5) da_nil))))))))))))

theorem sc_law_book : FnScope ["kit"] ["kit"] (defScope s_law_book) := ⟨rfl, rfl, rfl, by decide +kernel, rfl, by decide +kernel, by decide +kernel⟩
theorem ok_law_book (T : TX K mg) : DefOk PWd.P PWd.w K mg base "_law_book" s_law_book 3 ["kit"] 1 w_law_book := by
  rw [w_law_book_eq]
  refine T.defD (T.glo 63) 43 rfl sc_law_book rfl rfl (fun _ _ _ _ _ _ us hl => match us, hl with | [_], _ => rfl) fun cdv A outer s H E hr => ?_
  exact (ds_one (ds_ret (de_make (ok_Book_init T) (hr.mono (by decide)) tkF (da_cons (de_ix hr (de_var 0) de_str) (da_cons (de_ix hr (de_var 0) de_str) (da_cons (de_ix hr (de_var 0) de_str) da_nil))))))

theorem sc_law_parts_of : FnScope ["book"] ["book"] (defScope s_law_parts_of) := ⟨rfl, rfl, rfl, by decide +kernel, rfl, by decide +kernel, by decide +kernel⟩
theorem ok_law_parts_of (T : TX K mg) : DefOk PWd.P PWd.w K mg base "_law_parts_of" s_law_parts_of 1 ["book"] 1 w_law_parts_of := by
  rw [w_law_parts_of_eq]
  refine T.defD (T.glo 64) 44 rfl sc_law_parts_of rfl rfl (fun _ _ _ _ _ _ us hl => match us, hl with | [_], _ => rfl) fun cdv A outer s H E hr => ?_
  exact (ds_one (ds_ret (de_tup (da_cons (de_fld (clsOk_cons (T.cls 2) (T.noat 35) clsOk_nil) (de_var 0)) (da_cons (de_fld (clsOk_cons (T.cls 2) (T.noat 36) clsOk_nil) (de_var 0)) (da_cons (de_fld (clsOk_cons (T.cls 2) (T.noat 34) clsOk_nil) (de_var 0)) da_nil))))))

theorem sc_law_price : FnScope ["deal"] ["deal"] (defScope s_law_price) := ⟨rfl, rfl, rfl, by decide +kernel, rfl, by decide +kernel, by decide +kernel⟩
theorem ok_law_price (T : TX K mg) : DefOk PWd.P PWd.w K mg base "_law_price" s_law_price 3 ["deal"] 1 w_law_price := by
  rw [w_law_price_eq]
  refine T.defD (T.glo 65) 45 rfl sc_law_price rfl rfl (fun _ _ _ _ _ _ us hl => match us, hl with | [_], _ => rfl) fun cdv A outer s H E hr => ?_
  exact (ds_one (ds_ret (de_fn (ok_law_of T) (hr.mono (by decide)) tkF (da_cons (de_var 0) (da_cons (de_lst (da_cons (de_tup (da_cons de_int (da_cons de_int da_nil))) (da_cons (de_tup (da_cons de_int (da_cons de_int da_nil))) (da_cons (de_tup (da_cons de_int (da_cons de_int da_nil))) (da_cons (de_tup (da_cons de_int (da_cons de_int da_nil))) (da_cons (de_tup (da_cons de_int (da_cons de_int da_nil))) (da_cons (de_tup (da_cons de_int (da_cons de_int da_nil))) (da_cons (de_tup (da_cons de_int (da_cons de_int da_nil))) (da_cons (de_tup (da_cons de_int (da_cons de_int da_nil))) (da_cons (de_tup (da_cons de_int (da_cons de_int da_nil))) (da_cons (de_tup (da_cons de_int (da_cons de_int da_nil))) (da_cons (de_tup (da_cons de_int (da_cons de_int da_nil))) da_nil)))))))))))) da_nil)))))

theorem sc_law_said : FnScope ["value", "is_named", "e"] ["value", "is_named"] (defScope s_law_said) := ⟨rfl, rfl, rfl, by decide +kernel, rfl, by decide +kernel, by decide +kernel⟩
theorem ok_law_said (T : TX K mg) : DefOk PWd.P PWd.w K mg base "_law_said" s_law_said 11 ["value", "is_named"] 2 w_law_said := by
  rw [w_law_said_eq]
  refine T.defD (T.glo 67) 46 rfl sc_law_said rfl rfl (fun _ _ _ _ _ _ us hl => match us, hl with | [_, _], _ => rfl) fun cdv A outer s H E hr => ?_
  exact (ds_one (ds_try (cl := ["InvalidBook"]) (hs := h1_law_said) rfl rfl sc_law_said.nd tkF (all_cons (allH_cons ((T.exm 43).trans (by decide)) (allH_cons ((T.exm 41).trans (by decide)) allH_nil)) all_nil) (hc_named (i := 2) (T.glo 0) (fun a oe cls d pn hz hf => (hx_tup (hxa_cons hx_str (hxa_cons (hx_fld (j := 2) (T.xfc 42) (T.exf 4) hz hf) (hxa_cons (hx_fld (j := 2) (T.xfc 42) (T.exf 5) hz hf) hxa_nil))))) (hc_bare (T.glo 66) (fun a oe cls d pn hz hf => (hx_tup (hxa_cons hx_str hxa_nil))) hc_nil)) (fun W pn xe tkT poT => (ds_one (ds_ret (de_tup (da_cons de_str (da_cons (de_if (dt_tru (de_var 1)) (de_fnK0 (ks := ["value"]) (π := [0]) (ok_need_priced T) (hr.mono (by decide)) tkT (fun _ _ _ _ _ _ us ws l1 l2 => match us, ws, l1, l2 with | [], [_], _, _ => rfl) rfl (by decide) (dk_cons (de_var 0) dk_nil)) (de_fn (ok_need_priced T) (hr.mono (by decide)) tkT (da_cons (de_var 0) da_nil))) da_nil))))))))

theorem sc_law_parts_told : FnScope ["priced"] ["priced"] (defScope s_law_parts_told) := ⟨rfl, rfl, rfl, by decide +kernel, rfl, by decide +kernel, by decide +kernel⟩
theorem ok_law_parts_told (T : TX K mg) : DefOk PWd.P PWd.w K mg base "_law_parts_told" s_law_parts_told 2 ["priced"] 1 w_law_parts_told := by
  rw [w_law_parts_told_eq]
  refine T.defD (T.glo 68) 47 rfl sc_law_parts_told rfl rfl (fun _ _ _ _ _ _ us hl => match us, hl with | [_], _ => rfl) fun cdv A outer s H E hr => ?_
  exact (ds_one (ds_ret (de_add (de_fn (ok_law_parts_of T) (hr.mono (by decide)) tkF (da_cons (de_fld (clsOk_cons (T.cls 1) (T.noat 41) clsOk_nil) (de_var 0)) da_nil)) (de_tup (da_cons (de_fld (clsOk_cons (T.cls 1) (T.noat 42) clsOk_nil) (de_var 0)) da_nil)))))

theorem sc_law : FnScope ["script", "deal", "pairs", "turn", "kit", "due", "at", "value", "wrong", "prices", "book", "priced", "price", "many", "late", "word", "bent", "rule"] ["script"] (defScope s_law) := ⟨rfl, rfl, rfl, by decide +kernel, rfl, by decide +kernel, by decide +kernel⟩
theorem ok_law (T : TX K mg) : DefOk PWd.P PWd.w K mg base "law" s_law 12 ["script"] 1 w_law := by
  rw [w_law_eq]
  refine T.defD (T.glo 70) 48 rfl sc_law rfl rfl (fun _ _ _ _ _ _ us hl => match us, hl with | [_], _ => rfl) fun cdv A outer s H E hr => ?_
  exact (ds_cons (ds_set (i := 1) sc_law.nd (de_fn (ok_law_deal T) (hr.mono (by decide)) tkF (da_cons (de_var 0) (da_cons de_int da_nil))))
    (ds_cons (ds_set (i := 2) sc_law.nd (de_lst da_nil))
    (ds_cons (ds_for (vs := [3]) poF rfl (di_range1 (T.free 22) de_int) (dg_name sc_law.nd (by decide))
    (ds_cons (ds_set (i := 4) sc_law.nd (de_fn (ok_law_drawn_kit T) (hr.mono (by decide)) tkF (da_cons (de_var 1) da_nil)))
    (ds_cons (ds_par (i := 9) (j := 10) sc_law.nd rfl (da_cons (de_callTy call_tuple_of br_tuple (T.free 12) PyProof.Rows.boot_tuple (da_cons (de_lc (own := [("rule", 17)]) rfl sc_law.nd (by dsimp only [cxOf, envOfC, compEnvC]; decide +kernel) (di_seq (de_ix hr (de_var 4) de_str)) (fun _ _ _ _ _ => (dg_name sc_law.nd (by decide))) (fun _ _ _ _ _ => dts_nil) (fun _ _ _ _ _ => (de_fn (ok_law_price T) (hr.mono (by decide)) takes0 (da_cons (de_var 1) da_nil)))) da_nil)) (da_cons (de_fn (ok_law_book T) (hr.mono (by decide)) tkF (da_cons (de_var 4) da_nil)) da_nil)))
    (ds_cons (ds_par3 (i := 11) (j := 12) (l := 13) sc_law.nd rfl (da_cons (de_make (ok_PricedBook_init T) (hr.mono (by decide)) tkF (da_cons (de_var 10) (da_cons (de_var 9) da_nil))) (da_cons (de_fn (ok_law_price T) (hr.mono (by decide)) tkF (da_cons (de_var 1) da_nil)) (da_cons (de_callB call_len br_len (T.free 10) PySem.boot_len (da_cons (de_var 9) da_nil)) da_nil))))
    (ds_cons (ds_set (i := 5) sc_law.nd (de_tup (da_cons (de_ix hr (de_var 4) de_str) (da_cons (de_ix hr (de_var 4) de_str) (da_cons (de_ix hr (de_var 4) de_str) da_nil)))))
    (ds_cons (ds_set (i := 2) sc_law.nd (de_add (de_var 2) (de_lst (da_cons (de_tup (da_cons (de_fn (ok_law_said T) (hr.mono (by decide)) tkF (da_cons (de_var 11) (da_cons (de_eqA hr (de_var 3) de_int) da_nil))) (da_cons (de_tup (da_cons de_str (da_cons de_non da_nil))) da_nil))) (da_cons (de_tup (da_cons (de_fn (ok_law_parts_told T) (hr.mono (by decide)) tkF (da_cons (de_var 11) da_nil)) (da_cons (de_add (de_var 5) (de_tup (da_cons (de_var 9) da_nil))) da_nil))) da_nil)))))
    (ds_cons (ds_set (i := 2) sc_law.nd (de_add (de_var 2) (de_lst (da_cons (de_tup (da_cons (de_eqOwn (eqOk_mk (all_cons ⟨T.ins 8, T.cls 2, T.nof (t := .inr "Book") 45⟩ (all_cons ⟨T.ins 6, T.cls 1, T.nof (t := .inr "PricedBook") 44⟩ all_nil)) (T.nof (t := .inl "NoneType") 46) (T.nof (t := .inl "bool") 47) (T.nof (t := .inl "int") 48) (T.nof (t := .inl "str") 49) (T.nof (t := .inl "tuple") 50) (T.nof (t := .inl "list") 51) (T.mth 52)) (ok_PricedBook___eq__ T) (hr.mono (by decide)) (de_var 11) (de_makeK (ks := ["prices", "book"]) (π := [1, 0]) (okS_PricedBook_init T) (hr.mono (by decide)) (fun _ _ _ _ _ _ u ws l2 => match ws, l2 with | [_, _], _ => rfl) rfl (by decide) (dk_cons (de_var 9) (dk_cons (de_fn (ok_law_book T) (hr.mono (by decide)) tkF (da_cons (de_var 4) da_nil)) dk_nil)))) (da_cons de_bl da_nil))) (da_cons (de_tup (da_cons (de_eqOwn (eqOk_mk (all_cons ⟨T.ins 8, T.cls 2, T.nof (t := .inr "Book") 45⟩ (all_cons ⟨T.ins 6, T.cls 1, T.nof (t := .inr "PricedBook") 44⟩ all_nil)) (T.nof (t := .inl "NoneType") 46) (T.nof (t := .inl "bool") 47) (T.nof (t := .inl "int") 48) (T.nof (t := .inl "str") 49) (T.nof (t := .inl "tuple") 50) (T.nof (t := .inl "list") 51) (T.mth 52)) (ok_PricedBook___eq__ T) (hr.mono (by decide)) (de_var 11) (de_make (ok_PricedBook_init T) (hr.mono (by decide)) tkF (da_cons (de_var 10) (da_cons (de_add (de_var 9) (de_tup (da_cons (de_tup (da_cons de_int (da_cons de_int da_nil))) da_nil))) da_nil)))) (da_cons de_bl da_nil))) da_nil)))))
    (ds_cons (ds_set (i := 2) sc_law.nd (de_add (de_var 2) (de_lst (da_cons (de_tup (da_cons (de_eqOwn (eqOk_mk (all_cons ⟨T.ins 8, T.cls 2, T.nof (t := .inr "Book") 45⟩ (all_cons ⟨T.ins 6, T.cls 1, T.nof (t := .inr "PricedBook") 44⟩ all_nil)) (T.nof (t := .inl "NoneType") 46) (T.nof (t := .inl "bool") 47) (T.nof (t := .inl "int") 48) (T.nof (t := .inl "str") 49) (T.nof (t := .inl "tuple") 50) (T.nof (t := .inl "list") 51) (T.mth 52)) (ok_PricedBook___eq__ T) (hr.mono (by decide)) (de_var 11) (de_tup (da_cons (de_var 10) (da_cons (de_var 9) da_nil)))) (da_cons de_bl da_nil))) (da_cons (de_tup (da_cons (de_eqOwn (eqOk_mk (all_cons ⟨T.ins 8, T.cls 2, T.nof (t := .inr "Book") 45⟩ (all_cons ⟨T.ins 6, T.cls 1, T.nof (t := .inr "PricedBook") 44⟩ all_nil)) (T.nof (t := .inl "NoneType") 46) (T.nof (t := .inl "bool") 47) (T.nof (t := .inl "int") 48) (T.nof (t := .inl "str") 49) (T.nof (t := .inl "tuple") 50) (T.nof (t := .inl "list") 51) (T.mth 52)) (ok_PricedBook___eq__ T) (hr.mono (by decide)) (de_var 11) (de_var 10)) (da_cons de_bl da_nil))) da_nil)))))
    (ds_cons (ds_set (i := 2) sc_law.nd (de_add (de_var 2) (de_lst (da_cons (de_tup (da_cons (de_fn (ok_law_parts_told T) (hr.mono (by decide)) tkF (da_cons (de_fn (ok_all_alike T) (hr.mono (by decide)) tkF (da_cons (de_var 10) (da_cons (de_var 12) da_nil))) da_nil)) (da_cons (de_add (de_var 5) (de_tup (da_cons (de_mul (de_tup (da_cons (de_var 12) da_nil)) (de_var 13)) da_nil))) da_nil))) da_nil))))
    (ds_cons (ds_set (i := 2) sc_law.nd (de_add (de_var 2) (de_lst (da_cons (de_tup (da_cons (de_fn (ok_law_parts_told T) (hr.mono (by decide)) tkF (da_cons (de_fnK0 (ks := ["price", "book"]) (π := [1, 0]) (ok_all_alike T) (hr.mono (by decide)) tkF (fun _ _ _ _ _ _ us ws l1 l2 => match us, ws, l1, l2 with | [], [_, _], _, _ => rfl) rfl (by decide) (dk_cons (de_var 12) (dk_cons (de_var 10) dk_nil))) da_nil)) (da_cons (de_add (de_var 5) (de_tup (da_cons (de_mul (de_tup (da_cons (de_var 12) da_nil)) (de_var 13)) da_nil))) da_nil))) (da_cons (de_tup (da_cons (de_fn (ok_law_said T) (hr.mono (by decide)) tkF (da_cons (de_fn (ok_all_alike T) (hr.mono (by decide)) tkF (da_cons (de_var 10) (da_cons (de_var 12) da_nil))) (da_cons de_bl da_nil))) (da_cons (de_tup (da_cons de_str (da_cons de_non da_nil))) da_nil))) da_nil)))))
    (ds_cons (ds_for (vs := [6]) poF rfl (di_range1 (T.free 22) (de_callB (call_min2 rfl) br_min (T.free 69) (by decide +kernel) (da_cons (de_var 13) (da_cons de_int da_nil)))) (dg_name sc_law.nd (by decide))
    (ds_cons (ds_set (i := 14) sc_law.nd (de_add (de_add (de_slice (de_var 9) do_none (do_some (de_var 6))) (de_tup (da_cons (de_var 12) da_nil))) (de_slice (de_var 9) (do_some (de_add (de_var 6) de_int)) do_none)))
    (ds_cons (ds_set (i := 2) sc_law.nd (de_add (de_var 2) (de_lst (da_cons (de_tup (da_cons (de_fn (ok_law_parts_told T) (hr.mono (by decide)) tkF (da_cons (de_fn (ok_repriced T) (hr.mono (by decide)) tkF (da_cons (de_var 11) (da_cons (de_var 6) (da_cons (de_var 12) da_nil)))) da_nil)) (da_cons (de_add (de_var 5) (de_tup (da_cons (de_var 14) da_nil))) da_nil))) (da_cons (de_tup (da_cons (de_eqOwn (eqOk_mk (all_cons ⟨T.ins 8, T.cls 2, T.nof (t := .inr "Book") 45⟩ (all_cons ⟨T.ins 6, T.cls 1, T.nof (t := .inr "PricedBook") 44⟩ all_nil)) (T.nof (t := .inl "NoneType") 46) (T.nof (t := .inl "bool") 47) (T.nof (t := .inl "int") 48) (T.nof (t := .inl "str") 49) (T.nof (t := .inl "tuple") 50) (T.nof (t := .inl "list") 51) (T.mth 52)) (ok_PricedBook___eq__ T) (hr.mono (by decide)) (de_fnK0 (ks := ["price", "number", "priced"]) (π := [2, 1, 0]) (ok_repriced T) (hr.mono (by decide)) tkF (fun _ _ _ _ _ _ us ws l1 l2 => match us, ws, l1, l2 with | [], [_, _, _], _, _ => rfl) rfl (by decide) (dk_cons (de_var 12) (dk_cons (de_var 6) (dk_cons (de_var 11) dk_nil)))) (de_var 11)) (da_cons (de_eqA hr (de_var 14) (de_var 9)) da_nil))) da_nil)))))
    (ds_one (ds_for (vs := [7]) poF rfl (di_seq (de_lst (da_cons de_non (da_cons de_int (da_cons (de_tup (da_cons de_int da_nil)) (da_cons (de_tup (da_cons de_int (da_cons de_int da_nil))) (da_cons (de_tup (da_cons (de_sub de_int de_int) (da_cons de_int da_nil))) (da_cons (de_lst (da_cons de_int (da_cons de_int da_nil))) (da_cons de_str (da_cons (de_tup (da_cons de_bl (da_cons de_int da_nil))) da_nil)))))))))) (dg_name sc_law.nd (by decide))
    (ds_cons (ds_set (i := 16) sc_law.nd (de_add (de_add (de_slice (de_var 9) do_none (do_some (de_var 6))) (de_tup (da_cons (de_var 7) da_nil))) (de_slice (de_var 9) (do_some (de_add (de_var 6) de_int)) do_none)))
    (ds_cons (ds_expr (de_append (de_var 2) (de_tup (da_cons (de_fn (ok_law_said T) (hr.mono (by decide)) tkF (da_cons (de_make (ok_PricedBook_init T) (hr.mono (by decide)) tkF (da_cons (de_var 10) (da_cons (de_var 16) da_nil))) (da_cons de_bl da_nil))) (da_cons (de_tup (da_cons de_str (da_cons de_str (da_cons (de_var 6) da_nil)))) da_nil)))))
    (ds_one (ds_expr (de_append (de_var 2) (de_tup (da_cons (de_fn (ok_law_said T) (hr.mono (by decide)) tkF (da_cons (de_make (ok_PricedBook_init T) (hr.mono (by decide)) tkF (da_cons (de_var 10) (da_cons (de_add (de_slice (de_var 16) do_none (do_some (de_add (de_var 6) de_int))) (de_mul (de_tup (da_cons de_non da_nil)) (de_sub (de_sub (de_var 13) (de_var 6)) de_int))) da_nil))) (da_cons de_bl da_nil))) (da_cons (de_tup (da_cons de_str (da_cons de_str (da_cons (de_var 6) da_nil)))) da_nil)))))))))))))
    (ds_cons (ds_for (vs := [7]) poF rfl (di_seq (de_lst (da_cons de_non (da_cons de_int (da_cons (de_callTy call_list_of br_list (T.free 52) PyProof.Rows.boot_list (da_cons (de_var 9) da_nil)) (da_cons (de_add (de_var 9) (de_tup (da_cons (de_tup (da_cons de_int (da_cons de_int da_nil))) da_nil))) (da_cons (de_add (de_var 9) (de_tup (da_cons de_int (da_cons de_int da_nil)))) (da_cons de_str da_nil)))))))) (dg_name sc_law.nd (by decide))
    (ds_one (ds_expr (de_append (de_var 2) (de_tup (da_cons (de_fn (ok_law_said T) (hr.mono (by decide)) tkF (da_cons (de_make (ok_PricedBook_init T) (hr.mono (by decide)) tkF (da_cons (de_var 10) (da_cons (de_var 7) da_nil))) (da_cons de_bl da_nil))) (da_cons (de_tup (da_cons de_str (da_cons de_str (da_cons (de_sub de_int de_int) da_nil)))) da_nil)))))))
    (ds_cons (ds_set (i := 8) sc_law.nd (de_lst (da_cons (de_tup (da_cons de_non (da_cons de_str da_nil))) (da_cons (de_tup (da_cons (de_make (ok_Book_init T) (hr.mono (by decide)) tkF (da_cons (de_tup da_nil) (da_cons (de_ix hr (de_var 4) de_str) (da_cons (de_ix hr (de_var 4) de_str) da_nil)))) (da_cons de_str da_nil))) (da_cons (de_tup (da_cons (de_make (ok_Book_init T) (hr.mono (by decide)) tkF (da_cons (de_ix hr (de_var 4) de_str) (da_cons de_non (da_cons (de_ix hr (de_var 4) de_str) da_nil)))) (da_cons de_str da_nil))) da_nil)))))
    (ds_cons (ds_set (i := 8) sc_law.nd (de_add (de_var 8) (de_lst (da_cons (de_tup (da_cons (de_make (ok_Book_init T) (hr.mono (by decide)) tkF (da_cons (de_ix hr (de_var 4) de_str) (da_cons (de_ix hr (de_var 4) de_str) (da_cons de_non da_nil)))) (da_cons de_str da_nil))) (da_cons (de_tup (da_cons (de_var 9) (da_cons de_str da_nil))) da_nil)))))
    (ds_cons (ds_for (vs := [7, 15]) poF rfl (di_seq (de_var 8)) (dg_tup rfl (dgs_cons (dg_name sc_law.nd (by decide)) (dgs_cons (dg_name sc_law.nd (by decide)) dgs_nil)))
    (ds_cons (ds_set (i := 2) sc_law.nd (de_add (de_var 2) (de_lst (da_cons (de_tup (da_cons (de_fn (ok_law_said T) (hr.mono (by decide)) tkF (da_cons (de_make (ok_PricedBook_init T) (hr.mono (by decide)) tkF (da_cons (de_var 7) (da_cons (de_var 9) da_nil))) (da_cons de_bl da_nil))) (da_cons (de_tup (da_cons de_str (da_cons (de_var 15) (da_cons (de_sub de_int de_int) da_nil)))) da_nil))) da_nil))))
    (ds_one (ds_set (i := 2) sc_law.nd (de_add (de_var 2) (de_lst (da_cons (de_tup (da_cons (de_fn (ok_law_said T) (hr.mono (by decide)) tkF (da_cons (de_make (ok_PricedBook_init T) (hr.mono (by decide)) tkF (da_cons (de_var 7) (da_cons de_non da_nil))) (da_cons de_bl da_nil))) (da_cons (de_tup (da_cons de_str (da_cons (de_var 15) (da_cons (de_sub de_int de_int) da_nil)))) da_nil))) da_nil)))))))
    (ds_cons (ds_expr (de_append (de_var 2) (de_tup (da_cons (de_fn (ok_law_said T) (hr.mono (by decide)) tkF (da_cons (de_make (ok_PricedBook_init T) (hr.mono (by decide)) tkF (da_cons (de_make (ok_Book_init T) (hr.mono (by decide)) tkF (da_cons (de_ix hr (de_var 4) de_str) (da_cons (de_ix hr (de_var 4) de_str) (da_cons (de_add (de_ix hr (de_var 4) de_str) (de_tup (da_cons de_non da_nil))) da_nil)))) (da_cons de_non da_nil))) (da_cons de_bl da_nil))) (da_cons (de_tup (da_cons de_str (da_cons de_str (da_cons (de_var 13) da_nil)))) da_nil)))))
    (ds_one (ds_for (vs := [7]) poF rfl (di_seq (de_lst (da_cons de_non (da_cons de_int (da_cons de_str (da_cons (de_var 10) (da_cons (de_tup (da_cons (de_var 10) (da_cons (de_var 9) da_nil))) (da_cons (de_lst (da_cons (de_var 10) (da_cons (de_var 9) da_nil))) (da_cons de_bl da_nil))))))))) (dg_name sc_law.nd (by decide))
    (ds_one (ds_expr (de_append (de_var 2) (de_tup (da_cons (de_fn (ok_law_said T) (hr.mono (by decide)) tkF (da_cons (de_var 7) (da_cons de_bl da_nil))) (da_cons (de_tup (da_cons de_str (da_cons de_str (da_cons (de_sub de_int de_int) da_nil)))) da_nil))))))))))))))))))))))))
    (ds_one (ds_ret (de_fn (ok_law_all T) (hr.mono (by decide)) tkF (da_cons (de_var 2) da_nil)))))))

end
/-! ### the head -/
abbrev RR : PySem.W.OpenRow := PySem.W.OpenLaw.row PySem.Challenge.rw_cheapathand_k02_priced_books_are_let_or
def loose0 : List Str := ["SMALL", "MOST_SIGNS", "VARIABLE", "Book", "PricedBook", "BookError", "InvalidBook", "is_integer", "is_number", "are_small", "is_name", "is_tuple", "first_wrong", "is_tuple_of", "is_ascending", "is_sign", "many_of", "term_fault", "is_term", "is_placed", "are_placed", "are_makers_signs", "is_rule_line", "is_rule", "shared_name", "book_fault", "need_book", "common_divisor", "is_fraction", "is_price"]
def loose1 : List Str := ["need_priced", "all_alike", "repriced", "_law_deal", "_law_any", "_law_of", "_law_is_kind", "_law_same", "_law_all", "_law_mixed", "_law_name", "_law_drawn_term", "_law_kit", "_law_drawn_rule", "_law_drawn_kit", "_law_book", "_law_parts_of", "_law_price", "_law_said", "_law_parts_told"]
abbrev loose : List Str := loose0 ++ loose1
def ob (s : PySem.W.SharedT) : AlX := obsXG 5 fas fns css (HandSHeadRun.getT s)
theorem ob_eq (s : PySem.W.SharedT) : ob s = (hookX 5 fas fns css).obs s.abs := obsXG_eq (HandSHeadRun.getT_eq s)
theorem run (w : World) : HandSHeadRun.RunEq RR (PySem.W.view RR.prog [59]) (hookX 5 fas fns css) ob 20000 loose w := by
  intro os
  kernel_rfl
theorem facts [PWd] {K : PySem.W.Frag} {h : Heap} {mg : Str → Option Value} {f : Addr} (X : K.In h) (G : h.Ns mainGlobals mg) (hfa : mg ("law" : Str) = some (.ref f)) (c : SaysX fas fns css K) :
    ∃ fd : FuncData, (∀ (s : Shared) (v : Value), BindsTo s fd ⟨[v], []⟩ [("script", v)]) ∧ ∀ base : Heap, K.In base → base.Ns mainGlobals mg → FnOk PWd.P PWd.w K mg base (L2.CX PWd.P PWd.w) 12 f fd ["script"] (dSp K 1 w_law) := by
  have T : TX K mg := ⟨h, X, G, c⟩
  obtain ⟨fd, F⟩ := c.d.def_ 48 (d := dd_law) rfl
  have e := hfa.symm.trans (T.glo 70)
  cases e
  have b := FunD.bindsA (ps := ["script"]) F fun _ _ _ _ _ _ us hl => match us, hl with | [_], _ => rfl
  exact ⟨fd, fun s v => b s [v] rfl, fun base _ _ => Tx.lawD (ok_law T) F⟩
end K02
namespace K02
open PySem PySem.Spec PyProof.Rows L2 DL
variable [PWd] {S : Sto} {R : RD} {Rx : RX}
/-- the greatest common divisor -/
abbrev gcdZ (a b : Int) : Int := ((Int.gcd a b : Nat) : Int)
theorem lp_gcd {E : DEnds} {S : Sto} : ∀ (n : Nat) (a b : Int), 0 ≤ a → 0 ≤ b → b.toNat < n → E.nx [some (.int (gcdZ a b)), some (.int 0)] S → whileN c1_common_divisor b1_common_divisor E n [some (.int a), some (.int b)] S
  | 0, _, _, _, _, h, _ => by omega
  | n + 1, a, b, ha, hb, h, k => by
    refine ifB (fun hc => ?_) fun hc => ?_
    · have hb0 : b ≠ 0 := by simpa using hc
      refine ⟨by omega, ?_⟩
      refine lp_gcd n b (a % b) hb (Int.emod_nonneg _ hb0) ?_ ?_
      · have := Int.emod_lt_of_pos a (show 0 < b by omega)
        omega
      · have e : gcdZ b (a % b) = gcdZ a b := congrArg Int.ofNat (gcd_step a b)
        rw [e]
        exact k
    · have hb0 : b = 0 := by simpa using hc
      subst hb0
      have e : gcdZ a 0 = a := by
        show ((Int.gcd a 0 : Nat) : Int) = a
        rw [Int.gcd_zero_right]
        omega
      rw [e] at k
      exact k
theorem sp_gcd {a b : Int} (h : R (.int (gcdZ a b)) S) : Cal w_common_divisor [.int a, .int b] S R Rx := by
  refine .mk ?_
  rw [w_common_divisor_eq]
  refine ⟨_, lp_gcd _ _ _ ?_ ?_ (Nat.lt_succ_self _) ?_⟩
  · split <;> omega
  · split <;> omega
  · have e : gcdZ (if a < 0 then -a else a) (if b < 0 then -b else b) = gcdZ a b := by
      unfold gcdZ
      split <;> split <;> simp
    rw [e]
    exact h
/-- no list, no instance -/
def Nr : D → Prop
  | .ref _ => False
  | .fn _ => False
  | _ => True
def isInt : D → Bool
  | .int _ => true
  | _ => false
theorem sp_is_integer {d : D} (hd : Nr d) (h : R (.bl (isInt d)) S) : Cal w_is_integer [d] S R Rx := by
  refine .mk ?_
  rw [w_is_integer_eq]
  cases d with
  | non => exact ifF rfl h
  | bl b => exact ifT rfl h
  | int i => exact ifT rfl h
  | str x => exact ifF rfl h
  | tup xs => exact ifF rfl h
  | ref n => exact hd.elim
  | fn x => exact hd.elim
def isTup : D → Int → Bool
  | .tup xs, n => decide ((xs.length : Int) = n)
  | _, _ => false
theorem sp_is_tuple {d : D} {n : Int} (hd : Nr d) (h : R (.bl (isTup d n)) S) : Cal w_is_tuple [d, .int n] S R Rx := by
  refine .mk ?_
  rw [w_is_tuple_eq]
  cases d with
  | non => exact ifF rfl h
  | bl b => exact ifF rfl h
  | int i => exact ifF rfl h
  | str x => exact ifF rfl h
  | tup xs => exact ifT rfl h
  | ref n => exact hd.elim
  | fn x => exact hd.elim
theorem sp_is_tuple_ref {q : Nat} {xs : List D} {n : Int} (hq : S[q]? = some (.lst xs)) (h : R (.bl false) S) : Cal w_is_tuple [.ref q, .int n] S R Rx := by
  refine .mk ?_
  rw [w_is_tuple_eq]
  first | exact lst_at hq (ifF rfl h) | exact refAt.lst _ (.inl hq) (ifF rfl h)
def fracB : D → Bool
  | .tup [.int a, .int b] => decide (b ≥ 1) && decide (gcdZ a b = 1)
  | _ => false
theorem fracB_len {xs : List D} (h : xs.length ≠ 2) : fracB (.tup xs) = false := by
  unfold fracB
  split
  · rename_i e
    cases e
    exact absurd rfl h
  · rfl
/-- .. nor within -/
def Nr2 : D → Prop
  | .ref _ => False
  | .fn _ => False
  | .tup xs => ∀ x ∈ xs, Nr x
  | _ => True
theorem Nr2.nr {d : D} (h : Nr2 d) : Nr d := by
  cases d <;> first | exact h.elim | trivial
theorem sp_is_fraction {d : D} (hd : Nr2 d) (h : R (.bl (fracB d)) S) : Cal w_is_fraction [d] S R Rx := by
  refine .mk ?_
  rw [w_is_fraction_eq]
  refine sp_is_tuple hd.nr ?_
  cases d with
  | non => exact ifT rfl (ifT rfl h)
  | bl b => exact ifT rfl (ifT rfl h)
  | int i => exact ifT rfl (ifT rfl h)
  | str x => exact ifT rfl (ifT rfl h)
  | ref n => exact hd.elim
  | fn x => exact hd.elim
  | tup xs =>
    match xs, hd, h with
    | [], _, h => exact ifT rfl (ifT rfl h)
    | [x], _, h =>
      rw [fracB_len (by simp)] at h
      exact ifT rfl (ifT rfl h)
    | x :: y :: z :: r, _, h =>
      rw [fracB_len (by simp)] at h
      refine ifT ?_ (ifT rfl h)
      show (!decide (((x :: y :: z :: r).length : Int) = 2)) = true
      simp
      omega
    | [x, y], hd, h =>
      refine ifF rfl (ix_at rfl (sp_is_integer (hd x (by simp)) ?_))
      cases x with
      | non => exact ifT rfl (ifT rfl h)
      | bl b => exact ifT rfl (ifT rfl h)
      | str x => exact ifT rfl (ifT rfl h)
      | tup xs => exact ifT rfl (ifT rfl h)
      | ref n => exact (hd (.ref n) (by simp)).elim
      | fn z => exact (hd (.fn z) (by simp)).elim
      | int a =>
        refine ifF rfl (ix_at rfl (sp_is_integer (hd y (by simp)) ?_))
        cases y with
        | non => exact ifT rfl h
        | bl b => exact ifT rfl h
        | str x => exact ifT rfl h
        | tup xs => exact ifT rfl h
        | ref n => exact (hd (.ref n) (by simp)).elim
        | fn z => exact (hd (.fn z) (by simp)).elim
        | int b =>
          refine ifF rfl (ix_at rfl ?_)
          refine ifB (fun hb => ?_) fun hb => ?_
          · refine ix_at rfl (ix_at rfl (sp_gcd ?_))
            have e : fracB (.tup [.int a, .int b]) = decide (gcdZ a b = 1) := by
              show (decide (b ≥ 1) && decide (gcdZ a b = 1)) = _
              rw [hb, Bool.true_and]
            rw [e] at h
            exact h
          · have e : fracB (.tup [.int a, .int b]) = decide (b ≥ 1) := by
              show (decide (b ≥ 1) && decide (gcdZ a b = 1)) = _
              rw [hb, Bool.false_and]
            rw [e] at h
            exact h
theorem sp_is_fraction_ref {q : Nat} {xs : List D} (hq : S[q]? = some (.lst xs)) (h : R (.bl false) S) : Cal w_is_fraction [.ref q] S R Rx := by
  refine .mk ?_
  rw [w_is_fraction_eq]
  exact sp_is_tuple_ref hq (ifT rfl (ifT rfl h))
def nrB : D → Bool
  | .ref _ => false
  | .fn _ => false
  | _ => true
def nr2B : D → Bool
  | .ref _ => false
  | .fn _ => false
  | .tup xs => xs.all nrB
  | _ => true
theorem nr_of {d : D} (h : nrB d = true) : Nr d := by
  cases d <;> first | trivial | cases h
theorem nr2_of {d : D} (h : nr2B d = true) : Nr2 d := by
  cases d with
  | ref n => cases h
  | fn x => cases h
  | tup xs => exact fun x hx => nr_of (List.all_eq_true.mp h x hx)
  | non => trivial
  | bl b => trivial
  | int i => trivial
  | str x => trivial
def priceB : D → Bool
  | .tup [.int a, .int b] => decide (b ≥ 1) && decide (gcdZ a b = 1) && decide (a ≥ 0)
  | _ => false
theorem fracB_t {d : D} (h : fracB d = true) : ∃ a b, d = .tup [.int a, .int b] := by
  unfold fracB at h
  split at h
  · exact ⟨_, _, rfl⟩
  · cases h
theorem priceB_of {a b : Int} : priceB (.tup [.int a, .int b]) = (fracB (.tup [.int a, .int b]) && decide (a ≥ 0)) := rfl
theorem priceB_f {d : D} (h : fracB d = false) : priceB d = false := by
  unfold priceB
  split
  · rename_i a b
    have h' : (decide (b ≥ 1) && decide (gcdZ a b = 1)) = false := h
    rw [h', Bool.false_and]
  · rfl
theorem sp_is_price {d : D} (hd : Nr2 d) (h : R (.bl (priceB d)) S) : Cal w_is_price [d] S R Rx := by
  refine .mk ?_
  rw [w_is_price_eq]
  refine sp_is_fraction hd (ifB (fun hb => ?_) fun hb => ?_)
  · obtain ⟨a, b, rfl⟩ := fracB_t hb
    rw [priceB_of, hb, Bool.true_and] at h
    exact ix_at rfl h
  · rw [priceB_f hb] at h
    rw [hb]
    exact h
theorem sp_is_price_ref {q : Nat} {xs : List D} (hq : S[q]? = some (.lst xs)) (h : R (.bl false) S) : Cal w_is_price [.ref q] S R Rx := by
  refine .mk ?_
  rw [w_is_price_eq]
  exact sp_is_fraction_ref hq (ifF rfl h)
/-! ### draws -/
/-- a deal stands at n, its cells at m -/
structure Deal (n m : Nat) (S : Sto) : Prop where
  ne : n ≠ m
  ex : ∃ (cs : List Int) (mix : Int), S[n]? = some (.lst [D.ref m, D.int mix]) ∧ S[m]? = some (.lst (cs.map D.int)) ∧ cs.length ≤ 63 ∧ 0 ≤ mix ∧ mix < 2147483647
theorem Deal.frm0 {n m : Nat} {S S' : Sto} (d : Deal n m S) (f : Frm [] S S') : Deal n m S' := by
  obtain ⟨ne, cs, mix, h1, h2, h3⟩ := d
  exact ⟨ne, cs, mix, f.get0 h1, f.get0 h2, h3⟩
theorem Deal.lt {n m : Nat} {S : Sto} (d : Deal n m S) : n < S.length ∧ m < S.length := by
  obtain ⟨ne, cs, mix, h1, h2, h3⟩ := d
  exact ⟨lt_of_get h1, lt_of_get h2⟩
theorem lp_any {E : DEnds} {n m : Nat} {b mix : Int} {r0 : Option D} (ne : n ≠ m) : ∀ (k : Nat) (cs : List Int) (S : Sto), cs.length < k → S[n]? = some (.lst [D.ref m, D.int mix]) → S[m]? = some (.lst (cs.map D.int)) →
    (∀ (cs' : List Int) (S' : Sto), cs'.length ≤ cs.length → Frm [n, m] S S' → S'[n]? = some (.lst [D.ref m, D.int mix]) → S'[m]? = some (.lst (cs'.map D.int)) → E.nx [some (.ref n), some (.int b), r0] S') → whileN c1_law_any b1_law_any E k [some (.ref n), some (.int b), r0] S
  | 0, _, _, h, _, _, _ => by omega
  | k + 1, cs, S, hk, hn, hm, kk => by
    refine lst_at hn (ix_at rfl (lst_at hm (ifB (fun h1 => ?_) fun h1 => ?_)))
    · have hne : cs ≠ [] := by
        intro z
        subst z
        simp at h1
      obtain ⟨r, z, rfl⟩ := snoc_of hne
      have em : (r ++ [z]).map D.int = r.map D.int ++ [D.int z] := by simp
      rw [em] at hm
      have hl : (r ++ [z]).length = r.length + 1 := by simp
      refine lst_at hn (ix_at rfl (lst_at hm (ix_at (atI_last _ _) (ifB (fun h2 => ?_) fun h2 => ?_))))
      · refine lst_at hn (ix_at rfl (mlst_at hm (pop_snoc ?_)))
        show whileN c1_law_any b1_law_any E k [some (.ref n), some (.int b), r0] (S.set m (.lst (r.map D.int ++ [D.int z]).dropLast))
        rw [List.dropLast_concat]
        have lm := lt_of_get hm
        refine lp_any ne k r _ (by omega) (by rw [List.getElem?_set_ne (Ne.symm ne)]; exact hn) (by rw [List.getElem?_set_self lm]) fun cs' S' l f g1 g2 => kk cs' S' (by omega) ((Frm.set (by simp)).trans f) g1 g2
      · exact kk (r ++ [z]) S (Nat.le_refl _) Frm.refl hn (by rw [em]; exact hm)
    · exact ifF rfl (kk cs S (Nat.le_refl _) Frm.refl hn hm)
theorem sp_any {n m : Nat} {b : Int} (d : Deal n m S) (hb : 0 < b) (hs : b.natAbs < 2 ^ 8000) (k : ∀ r S', 0 ≤ r → r < b → Frm [n, m] S S' → Deal n m S' → R (.int r) S') : Cal w_law_any [.ref n, .int b] S R Rx := by
  obtain ⟨ne, cs, mix, hn, hm, hl, m0, m1⟩ := d
  refine .mk ?_
  rw [w_law_any_eq]
  refine ⟨cs.length + 1, lp_any (r0 := none) ne _ cs S (Nat.lt_succ_self _) hn hm fun cs' S' l f g1 g2 => ?_⟩
  have bl : b.natAbs.log2 < 9000 := log2_lt hs (by decide) (by decide)
  refine lst_at g1 (ix_at rfl (lst_at g2 (ifB (fun h1 => ?_) fun h1 => ?_)))
  · have hne : cs' ≠ [] := by
      intro z
      subst z
      simp at h1
    obtain ⟨r, z, rfl⟩ := snoc_of hne
    have em : (r ++ [z]).map D.int = r.map D.int ++ [D.int z] := by simp
    rw [em] at g2
    have lm := lt_of_get g2
    have ll : (r ++ [z]).length = r.length + 1 := by simp
    have e1 : (S'.set m (.lst (r.map D.int ++ [D.int z]).dropLast))[n]? = some (.lst [D.ref m, D.int mix]) := by rw [List.getElem?_set_ne (Ne.symm ne)]; exact g1
    have e2 : (S'.set m (.lst (r.map D.int ++ [D.int z]).dropLast))[m]? = some (.lst (r.map D.int)) := by rw [List.getElem?_set_self lm, List.dropLast_concat]
    refine lst_at g1 (ix_at rfl (mlst_at g2 (pop_snoc (lst_at e1 (ix_at rfl ⟨mlst_at e2 trivial, ⟨hb, bl⟩, mlst_at e2 ⟨?_, hb, ?_⟩⟩)))))
    · rw [List.length_map]
      exact small1000 (by omega)
    · refine k _ _ (Int.emod_nonneg _ (by omega)) (Int.emod_lt_of_pos _ hb) (f.trans ((Frm.set (by simp)).trans (Frm.set (by simp)))) ⟨ne, r ++ [z / b], mix, ?_, ?_, ?_, m0, m1⟩
      · rw [List.getElem?_set_ne (Ne.symm ne)]; exact e1
      · rw [List.getElem?_set_self (by simpa using lm)]; simp
      · simp; omega
  · have ln := lt_of_get g1
    refine lst_at g1 (ix_at rfl ⟨room (n := 31) (m := 16) ?_ (by decide) (by decide) (by decide) (by decide), ?_⟩)
    · show mix.natAbs < 2 ^ 31
      omega
    · refine ⟨by decide, mlst_at g1 ?_⟩
      have em : S'.set n (.lst ([D.ref m, D.int mix].set 1 (.int ((mix * 48271 + 31) % 2147483647)))) = S'.set n (.lst [.ref m, .int ((mix * 48271 + 31) % 2147483647)]) := rfl
      have e1 : (S'.set n (.lst [.ref m, .int ((mix * 48271 + 31) % 2147483647)]))[n]? = some (.lst [.ref m, .int ((mix * 48271 + 31) % 2147483647)]) := by rw [List.getElem?_set_self ln]
      have e2 : (S'.set n (.lst [.ref m, .int ((mix * 48271 + 31) % 2147483647)]))[m]? = some (.lst (cs'.map D.int)) := by rw [List.getElem?_set_ne ne]; exact g2
      refine lst_at e1 (ix_at rfl ⟨⟨by decide, by decide⟩, hb, ?_⟩)
      exact k _ _ (Int.emod_nonneg _ (by omega)) (Int.emod_lt_of_pos _ hb) (f.trans (Frm.set (by simp))) ⟨ne, cs', _, e1, e2, by omega, Int.emod_nonneg _ (by decide), Int.emod_lt_of_pos _ (by decide)⟩
/-! ### the judge of told and due -/
def Sc : D → Prop
  | .tup _ => False
  | .ref _ => False
  | .fn _ => False
  | _ => True
theorem sp_kind {d : D} (hd : Sc d) (h : R (.bl true) S) : Cal w_law_is_kind [d, d] S R Rx := by
  refine .mk ?_
  rw [w_law_is_kind_eq]
  cases d with
  | non => exact ifT rfl h
  | bl b =>
    cases b
    · exact ifF rfl (ifF rfl (ifT rfl (ifF rfl h)))
    · exact ifF rfl (ifT rfl (ifT rfl (ifT rfl h)))
  | int i =>
    have g : R (.bl (decide (i = i))) S := by simpa using h
    exact ifF rfl (ifF rfl (ifF rfl (ifF rfl (ifT rfl (ifT rfl g)))))
  | str x =>
    have g : R (.bl (decide (x = x))) S := by simpa using h
    exact ifF rfl (ifF rfl (ifF rfl (ifT rfl (ifT rfl g))))
  | tup xs => exact hd.elim
  | ref n => exact hd.elim
  | fn x => exact hd.elim
theorem lf_same {E : DEnds} {told due : Option D} {p : Nat} {ys : List D} (hy : ys.length ≤ 100000) : ∀ (k i : Nat) (r5 : Option D) (acc : List D) (S : Sto), i + k = ys.length → S[p]? = some (.lst (acc.map pr)) → acc.length + k ≤ 100000 →
    (∀ r5 S', Frm [p] S S' → S'[p]? = some (.lst ((acc ++ ys.drop i).map pr)) → E.nx [told, due, some (.ref p), some (.tup ys), some (.tup ys), r5] S') →
    forW noG (gNm 5) f1_law_same E ((List.range' i k).map fun (j : Nat) => D.int (0 + (j : Int))) [told, due, some (.ref p), some (.tup ys), some (.tup ys), r5] S
  | 0, i, r5, acc, S, hk, hp, hl, kk => by
    refine ⟨trivial, kk _ _ .refl ?_⟩
    rw [List.drop_of_length_le (by omega), List.append_nil]
    exact hp
  | k + 1, i, r5, acc, S, hk, hp, hl, kk => by
    have hi : i < ys.length := by omega
    have hg : atI ys (0 + (i : Int)) = some ys[i] := by
      rw [Int.zero_add]
      exact atI_nat (by simp [hi])
    refine ⟨trivial, mlst_at hp trivial, ?_⟩
    refine ix_at hg (ix_at hg ⟨sz (show 2 ≤ 1000 by decide), mlst_at hp ⟨?_, ?_⟩⟩)
    · have : 100000 < sizeLine := by decide
      simp
      omega
    · have lp := lt_of_get hp
      refine lf_same hy k (i + 1) _ (acc ++ [ys[i]]) _ (by omega) (by rw [List.getElem?_set_self lp]; simp) (by simp; omega) fun r5 S' f g => kk r5 S' ((Frm.set (by simp)).trans f) ?_
      rw [g, List.append_assoc, List.singleton_append, List.getElem_cons_drop]
theorem st_same {E : DEnds} {told due : Option D} {p k : Nat} {r : List D} {d : D} {S : Sto} {r3 r4 r5 : Option D} (pd : Pl d) (pl : Pls r) (hp : S[p]? = some (.lst ((r ++ [d]).map pr))) (hw : wts r + wt d ≤ 100000)
    (ih : ∀ (ds : List D) (S' : Sto) (r3 r4 r5 : Option D), wts ds < wts r + wt d → Pls ds → S'[p]? = some (.lst (ds.map pr)) → Frm [p] S S' → whileN c1_law_same b1_law_same E k [told, due, some (.ref p), r3, r4, r5] S') :
    whileN c1_law_same b1_law_same E (k + 1) [told, due, some (.ref p), r3, r4, r5] S := by
  have lp := lt_of_get hp
  have em : (r ++ [d]).map pr = r.map pr ++ [pr d] := by simp
  rw [em] at hp
  refine lst_at hp (ifT (by simp) ?_)
  have w0 := wt_pos d
  have hp' : (S.set p (.lst (r.map pr ++ [pr d]).dropLast))[p]? = some (.lst (r.map pr)) := by rw [List.getElem?_set_self lp, List.dropLast_concat]
  have f0 : Frm [p] S (S.set p (.lst (r.map pr ++ [pr d]).dropLast)) := .set (by simp)
  refine mlst_at hp (pop_snoc ⟨rfl, ?_⟩)
  have nx : whileN c1_law_same b1_law_same E k [told, due, some (.ref p), some d, some d, r5] (S.set p (.lst (r.map pr ++ [pr d]).dropLast)) :=
    ih r _ _ _ _ (by omega) pl hp' f0
  cases d with
  | non => refine ifF rfl (ifF rfl (sp_kind (d := .non) trivial ?_)); exact ifF rfl nx
  | bl b => refine ifF rfl (ifF rfl (sp_kind (d := .bl b) trivial ?_)); exact ifF rfl nx
  | int i => refine ifF rfl (ifF rfl (sp_kind (d := .int i) trivial ?_)); exact ifF rfl nx
  | str x => refine ifF rfl (ifF rfl (sp_kind (d := .str x) trivial ?_)); exact ifF rfl nx
  | ref n => exact (pl_ref pd).elim
  | fn x => exact (pl_fn pd).elim
  | tup xs =>
    rw [wt] at hw
    have lx := wts_len xs
    have eq : (!decide ((xs.length : Int) = (xs.length : Int))) = false := by simp
    refine ifT rfl ?_
    refine ifF rfl ?_
    refine ifF eq ?_
    refine ⟨⟨by omega, by omega⟩, ?_⟩
    have er : rangeD 0 ((xs.length : Int)).toNat = (List.range' 0 xs.length).map fun (j : Nat) => D.int (0 + (j : Int)) := by rw [Int.toNat_natCast, rangeD, List.range_eq_range']
    rw [er]
    have lr := wts_len r
    refine lf_same (by omega) xs.length 0 _ r _ (by omega) hp' (by omega) fun r5 S' f g => ?_
    rw [List.drop_zero] at g
    exact ih (r ++ xs) _ _ _ _ (by rw [wts_app, wt]; omega) (pls_app.mpr ⟨pl, pl_tup.mp pd⟩) g (f0.trans f)
theorem lp_same {E : DEnds} {told due : Option D} {p : Nat} : ∀ (k : Nat) (ds : List D) (S : Sto) (r3 r4 r5 : Option D), wts ds < k → Pls ds → S[p]? = some (.lst (ds.map pr)) → wts ds ≤ 100000 →
    (∀ (ρ : Ev) (S' : Sto), Frm [p] S S' → E.nx ρ S') → whileN c1_law_same b1_law_same E k [told, due, some (.ref p), r3, r4, r5] S := by
  intro k
  induction k with
  | zero => intro ds S r3 r4 r5 h; omega
  | succ k ih =>
    intro ds S r3 r4 r5 hk hpl hp hw kk
    by_cases hne : ds = []
    · subst hne
      exact lst_at hp (ifF rfl (kk _ _ .refl))
    obtain ⟨r, d, rfl⟩ := snoc_of hne
    rw [wts_app] at hk hw
    rw [pls_app] at hpl
    obtain ⟨pl, pd⟩ := hpl
    rw [pls_one] at pd
    have wd : wts [d] = wt d := wt_one
    rw [wd] at hk hw
    exact st_same pd pl hp hw fun ds' S' r3 r4 r5 hl hpl' hp' f => ih ds' S' r3 r4 r5 (by omega) hpl' hp' (by omega) fun ρ S'' f' => kk ρ S'' (f.trans f')
theorem sp_same {d : D} (pd : Pl d) (hw : wt d ≤ 100000) (h : ∀ S', Frm [] S S' → R (.bl true) S') : Cal w_law_same [d, d] S R Rx := by
  refine .mk ?_
  rw [w_law_same_eq]
  refine ⟨sz (show 2 ≤ 1000 by decide), sz (show 1 ≤ 1000 by decide), ?_⟩
  refine ⟨wt d + 1, lp_same (p := S.length) (wt d + 1) [d] _ none none none (by rw [wt_one]; omega) (pls_one.mpr pd) get_last (by rw [wt_one]; exact hw) fun ρ S' f => h S' ⟨?_, fun i hi _ => ?_⟩⟩
  · have := f.len
    simp at this
    omega
  · rw [f.at_ i (by simp; omega) (by simp; omega)]
    exact (Frm.app (W := []) _).at_ i hi (by simp)
/-! ### the deal of a script -/
theorem cut_map (ns : List Int) (k : Nat) : DL.cutD (ns.map D.int) none (some (k : Int)) = (ns.take k).map D.int := by
  unfold DL.cutD
  rw [HT.sIx_none, HT.sIx_nat, List.drop_zero, Nat.sub_zero, List.length_map, ← List.map_take]
  congr 1
  rw [List.take_eq_take_iff]
  omega
theorem lc1_deal {p n : Nat} {xs0 : List D} {a b : Option D} {M : Int} {Rq : Sto → Prop} (hM : 0 < M) (hne : p ≠ n) : ∀ (xs acc : List Int) (S : Sto), acc.length + xs.length ≤ 1000 → S[p]? = some (.lst xs0) → S[n]? = some (.lst (acc.map D.int)) →
    (∀ (cs : List Int) (S' : Sto), cs.length ≤ acc.length + xs.length → S'[n]? = some (.lst (cs.map D.int)) → Frm [n] S S' → Rq S') →
    lcW n (fun S => S[p]? = some (.lst xs0)) (gNm 5) tYesD v1_law_deal [a, b, some (.int M), none, none, none] Rq (xs.map D.int) S
  | [], acc, S, hl, hp, hn, k => ⟨hp, k acc S (by simp) hn .refl⟩
  | x :: xs, acc, S, hl, hp, hn, k => by
    have ln := lt_of_get hn
    simp only [List.length_cons] at hl
    refine ⟨hp, ifT rfl ⟨hM, mlst_at hn ⟨?_, ?_⟩⟩⟩
    · rw [List.length_map]
      exact small1000 (by omega)
    · refine lc1_deal hM hne xs (acc ++ [_]) _ (by simp; omega) (by rw [List.getElem?_set_ne (Ne.symm hne)]; exact hp) (by rw [List.getElem?_set_self ln, List.map_append]; rfl) fun cs S' h1 h2 h3 => k cs S' (by simp at *; omega) h2 ((Frm.set (by simp)).trans h3)
theorem lf_deal {p : Nat} {xs0 : List D} {a b M c3 : Option D} {E : DEnds} {S : Sto} (hp : S[p]? = some (.lst xs0)) : ∀ (xs : List Int) (mix : Int) (r5 : Option D), 0 ≤ mix → mix < 2 ^ 62 →
    (∀ (mix' : Int) r5, 0 ≤ mix' → mix' < 2 ^ 62 → (xs ≠ [] → mix' < 2147483647) → (xs = [] → mix' = mix) → E.nx [a, b, M, c3, some (.int mix'), r5] S) → forW (fun S => S[p]? = some (.lst xs0)) (gNm 5) f1_law_deal E (xs.map D.int) [a, b, M, c3, some (.int mix), r5] S
  | [], mix, r5, h0, h1, k => ⟨hp, k mix r5 h0 h1 (by simp) (by simp)⟩
  | x :: xs, mix, r5, h0, h1, k => by
    refine ⟨hp, ⟨room (n := 62) (m := 20) ?_ (by decide) (by decide) (by decide) (by decide), by decide, ?_⟩⟩
    · omega
    refine ⟨by decide, ?_⟩
    have p0 := Int.emod_nonneg (mix * 69621 + x % 2147483563 + 23) (show (2147483647 : Int) ≠ 0 by decide)
    have p1 := Int.emod_lt_of_pos (mix * 69621 + x % 2147483563 + 23) (show (0 : Int) < 2147483647 by decide)
    refine lf_deal hp xs _ _ p0 (by omega) fun mix' r5 g0 g1 g2 g3 => k mix' r5 g0 g1 (fun _ => ?_) (by simp)
    by_cases hx : xs = []
    · rw [g3 hx]; exact p1
    · exact g2 hx
theorem lc2_deal {p n : Nat} {xs0 : List D} {a b c d e : Option D} {Rq : Sto → Prop} (hne : p ≠ n) : ∀ (xs acc : List Int) (S : Sto), acc.length + xs.length ≤ 1000 → S[p]? = some (.lst xs0) → S[n]? = some (.lst (acc.map D.int)) →
    (∀ (cs : List Int) (S' : Sto), cs.length ≤ acc.length + xs.length → S'[n]? = some (.lst (cs.map D.int)) → Frm [n] S S' → Rq S') →
    lcW n (fun S => S[p]? = some (.lst xs0)) (gNm 5) q1_law_deal v2_law_deal [a, b, c, d, e, none] Rq (xs.map D.int) S
  | [], acc, S, hl, hp, hn, k => ⟨hp, k acc S (by simp) hn .refl⟩
  | x :: xs, acc, S, hl, hp, hn, k => by
    have ln := lt_of_get hn
    simp only [List.length_cons] at hl
    refine ⟨hp, ⟨by decide, ifB (fun _ => ?_) fun _ => lc2_deal hne xs acc S (by omega) hp hn fun cs S' h1 h2 h3 => k cs S' (by simp; omega) h2 h3⟩⟩
    refine mlst_at hn ⟨?_, ?_⟩
    · rw [List.length_map]
      exact small1000 (by omega)
    · refine lc2_deal hne xs (acc ++ [x]) _ (by simp; omega) (by rw [List.getElem?_set_ne (Ne.symm hne)]; exact hp) (by rw [List.getElem?_set_self ln, List.map_append]; rfl) fun cs S' h1 h2 h3 => k cs S' (by simp at *; omega) h2 ((Frm.set (by simp)).trans h3)
theorem sp_deal {ns : List Int} {salt : Int} (h0 : 0 ≤ salt) (h1 : salt < 100000) {q : Nat} (hq : S[q]? = some (.fix (ns.map D.int))) (k : ∀ n m S', S.length ≤ n → S.length ≤ m → Frm [] S S' → Deal n m S' → R (.ref n) S') : Cal w_law_deal [.ref q, .int salt] S R Rx := by
  refine .mk ?_
  rw [w_law_deal_eq]
  refine ⟨by decide, ⟨by decide, ⟨by decide +kernel, ⟨by decide, ⟨by decide +kernel, ⟨by decide, ⟨by decide +kernel, ⟨by decide, ⟨by decide +kernel, ⟨by decide, ⟨by decide +kernel, ?_⟩⟩⟩⟩⟩⟩⟩⟩⟩⟩⟩
  generalize hM : (10 : Int) ^ Int.toNat 64 * 10 ^ Int.toNat 64 * 10 ^ Int.toNat 64 * 10 ^ Int.toNat 64 * 10 ^ Int.toNat 64 * 10 ^ Int.toNat 64 = M
  have M0 : 0 < M := by rw [← hM]; decide +kernel
  clear hM
  refine fix_at hq ?_
  have ec : DL.cutD (ns.map D.int) none (some 63) = (ns.take 63).map D.int := cut_map ns 63
  rw [ec]
  have hl : (ns.take 63).length ≤ 63 := by simp; omega
  have g1 : (S ++ [Ob.lst ((ns.take 63).map D.int)])[S.length]? = some (.lst ((ns.take 63).map D.int)) := get_last
  refine iter_at g1 ?_
  have lenS1 : (S ++ [Ob.lst ((ns.take 63).map D.int)]).length = S.length + 1 := by simp
  have g2 : (S ++ [Ob.lst ((ns.take 63).map D.int)] ++ [Ob.lst []])[S.length]? = some (.lst ((ns.take 63).map D.int)) := (Frm.app (W := []) _).get0 g1
  refine lc1_deal M0 (by simp) (ns.take 63) [] _ (by simp; omega) g2 get_last fun cs S2 hc h2 f2 => ?_
  simp only [List.length_nil, Nat.zero_add] at hc
  rw [lenS1] at h2 f2 ⊢
  have F0 : Frm [] S S2 := by
    refine ⟨?_, fun i hi _ => ?_⟩
    · have := f2.len
      simp at this
      omega
    · rw [f2.at_ i (by simp; omega) (by simp; omega), List.getElem?_append_left (by simp; omega), List.getElem?_append_left hi]
  refine ⟨room (a := 7919) (b := salt) (n := 13) (m := 20) (by decide) (by omega) (by decide) (by decide) (by decide), ?_⟩
  refine iter_at h2 ?_
  refine lf_deal h2 cs _ _ (by omega) (by omega) fun mix' r5 m0 m1 m2 m3 => ?_
  refine iter_at h2 ?_
  have l2 := lt_of_get h2
  have g3 : (S2 ++ [Ob.lst []])[S.length + 1]? = some (.lst (cs.map D.int)) := (Frm.app (W := []) _).get0 h2
  refine lc2_deal (by omega) cs [] _ (by simp; omega) g3 get_last fun ds S3 hd h3 f3 => ?_
  simp only [List.length_nil, Nat.zero_add] at hd
  refine lst_at h3 ?_
  refine ⟨sz (show 2 ≤ 1000 by decide), ?_⟩
  have F1 : Frm [] S2 S3 := by
    refine ⟨?_, fun i hi _ => ?_⟩
    · have := f3.len
      simp at this
      omega
    · rw [f3.at_ i (by simp; omega) (by simp; omega), List.getElem?_append_left hi]
  have l0 := F0.len
  have l1 := F1.len
  refine k _ S3.length _ (by simp; omega) (by omega) ((F0.trans F1).trans ((Frm.app _).trans (Frm.app _))) ⟨by simp, ds.reverse, mix', get_last, ?_, by simp; omega, m0, ?_⟩
  · rw [List.getElem?_append_left (by simp), List.map_reverse]
    exact get_last
  · by_cases hx : cs = []
    · rw [m3 hx]; omega
    · exact m2 hx
theorem lt8 {a : Nat} (h : a < 2 ^ 20) : a < 2 ^ 8000 := Nat.lt_trans h (Nat.pow_lt_pow_right (by decide) (by decide))
theorem lt2 {a : Nat} (h : a < 2 ^ 20) : a < 2 ^ 2000 := Nat.lt_trans h (Nat.pow_lt_pow_right (by decide) (by decide))
theorem sp_of {n m q : Nat} {xs : List D} (d : Deal n m S) (hq : S[q]? = some (.lst xs)) (hn : q ∉ [n, m]) (h0 : 0 < xs.length) (h1 : xs.length ≤ 1000) (k : ∀ d S', d ∈ xs → Frm [n, m] S S' → Deal n m S' → R d S') : Cal w_law_of [.ref n, .ref q] S R Rx := by
  refine .mk ?_
  rw [w_law_of_eq]
  refine lst_at hq (sp_any d (by omega) (lt8 (by omega)) fun r S' r0 r1 f d' => ?_)
  have hq' := f.get hq hn
  obtain ⟨j, rfl⟩ : ∃ j : Nat, r = (j : Int) := ⟨r.toNat, by omega⟩
  have hl : j < xs.length := by omega
  exact lst_at hq' (ix_at (d := xs[j]) (atI_nat (by simp [hl])) (k _ S' (List.getElem_mem hl) f d'))
/-! ### comprehensions of draws -/
theorem choose_map {α : Type} {f : α → D} {Q : α → Prop} : ∀ {ds : List D}, (∀ d ∈ ds, ∃ x, d = f x ∧ Q x) → ∃ xs : List α, ds = xs.map f ∧ ∀ x ∈ xs, Q x
  | [], _ => ⟨[], rfl, by simp⟩
  | d :: ds, h => by
    obtain ⟨x, rfl, hx⟩ := h d (by simp)
    obtain ⟨xs, rfl, hxs⟩ := choose_map (ds := ds) fun d hd => h d (by simp [hd])
    exact ⟨x :: xs, rfl, fun y hy => by
      rcases List.mem_cons.mp hy with rfl | hy
      · exact hx
      · exact hxs y hy⟩
theorem lc_draw {n m i : Nat} {te : TD} {ρ : Ev} {Rq : Sto → Prop} {xs : List D} (P : D → Prop) (d : Deal n m S) (hl : xs.length ≤ 100000)
    (ht : ∀ x ∈ xs, ∀ S R, Deal n m S → (∀ d S', P d → Frm [n, m] S S' → Deal n m S' → R d S') → te noX (ρ.set i (some x)) S R)
    (k : ∀ ds S', ds.length = xs.length → (∀ d ∈ ds, P d) → Frm [n, m] S S' → Deal n m S' → S'[S.length]? = some (.lst ds) → Rq S') :
    lcW S.length noG (gNm i) tYesD te ρ Rq xs (S ++ [.lst []]) := by
  obtain ⟨hn, hm⟩ := d.lt
  refine lc_ind (fun j acc S' => acc.length = j ∧ j ≤ xs.length ∧ (∀ d ∈ acc, P d) ∧ Frm [n, m] S S' ∧ Deal n m S' ∧ S'[S.length]? = some (.lst acc)) xs (fun j acc S' h => ⟨trivial, h.2.2.2.2.2, by omega⟩) ?_ ⟨rfl, Nat.zero_le _, by simp, .app _, d.frm0 (.app _), get_last⟩ fun acc S' h => k acc S' h.1 h.2.2.1 h.2.2.2.1 h.2.2.2.2.1 h.2.2.2.2.2
  rintro j x acc S' R Z hx ⟨h1, h2, h3, h4, h5, h6⟩ kk _
  have hj := lt_of_get hx
  refine ifT rfl (ht x (List.mem_of_getElem? hx) S' R h5 fun e S'' he f d' => ?_)
  have hq : S''[S.length]? = some (.lst acc) := f.get h6 (by simp; omega)
  have lq := lt_of_get hq
  refine kk e S'' hq ⟨by simp [h1], hj, ?_, (h4.trans f).setNew (Nat.le_refl _), ?_, by rw [List.getElem?_set_self lq]⟩
  · intro y hy
    rcases List.mem_append.mp hy with h | h
    · exact h3 y h
    · rw [List.mem_singleton.mp h]; exact he
  · obtain ⟨ne, cs, mix, g1, g2, g3⟩ := d'
    exact ⟨ne, cs, mix, by rw [List.getElem?_set_ne (by omega)]; exact g1, by rw [List.getElem?_set_ne (by omega)]; exact g2, g3⟩
theorem lc_all {p n : Nat} {ps : List D} {a : Option D} {Rq : Sto → Prop} (hne : p ≠ n) : ∀ (xs : List D) (S : Sto), (∀ x ∈ xs, Good x) → S[p]? = some (.lst ps) → S[n]? = some (.lst []) →
    (∀ S', S'[n]? = some (.lst []) → Rq S') →
    lcW n (fun S => S[p]? = some (.lst ps)) (gTp 2 (gsCons (gNm 1) (gsCons (gNm 2) gsNil))) q1_law_all v1_law_all [a, none, none] Rq xs S
  | [], S, hg, hp, hn, k => ⟨hp, k S hn⟩
  | x :: xs, S, hg, hp, hn, k => by
    obtain ⟨d, rfl, pd, wd⟩ := hg x (by simp)
    refine ⟨hp, ⟨rfl, sp_same pd wd fun S' f => ifF rfl ?_⟩⟩
    exact lc_all hne xs S' (fun y hy => hg y (by simp [hy])) (f.get0 hp) (f.get0 hn) k
theorem sp_all {p : Nat} {ps : List D} (hp : S[p]? = some (.lst ps)) (hg : ∀ x ∈ ps, Good x) (h : ∀ S', R (.bl true) S') : Cal w_law_all [.ref p] S R Rx := by
  refine .mk ?_
  rw [w_law_all_eq]
  have lp := lt_of_get hp
  have e : (S ++ [Ob.lst []])[p]? = some (.lst ps) := (Frm.app (W := []) _).get0 hp
  refine iter_at hp (lc_all (by omega) ps _ hg e get_last fun S' hn => lst_at hn (h S'))
/-! ### names, signs: what is let -/
theorem sz5 {n : Nat} (h : n ≤ 100000) : n ≤ sizeLine := Nat.le_trans h (by decide)
/-- a name -/
structure Nm (x : Str) : Prop where
  l0 : 0 < x.cps.size
  l8 : x.cps.size ≤ 8
  sm : ∀ c ∈ x.cps.toList, 97 ≤ c ∧ c ≤ 122
theorem small_mem : ∀ c : Nat, 97 ≤ c → c ≤ 122 → c ∈ ("abcdefghijklmnopqrstuvwxyz" : Str).cps.toList := by
  have h : ∀ k, k < 26 → (97 + k) ∈ ("abcdefghijklmnopqrstuvwxyz" : Str).cps.toList := by decide +kernel
  intro c h1 h2
  have := h (c - 97) (by omega)
  rwa [show 97 + (c - 97) = c by omega] at this
theorem pls_nil' : Pls [] := pls_nil
/-- xs == [] of a new empty list -/
theorem eq_nil {n m : Nat} (hn : S[n]? = some (.lst [])) (hm : S[m]? = some (.lst [])) (h : R (.bl true) S) : eqA (.ref n) (.ref m) S R :=
  .mk _ _ (.lst hn pls_nil) (.lst hm pls_nil) (by rw [toPs_nil]; decide +kernel) (by rw [toPs_nil]; decide +kernel) (by
    have e : (PyData.eqv (.list (toPs [])) (.list (toPs [])) == true) = true := by rw [toPs_nil]; decide +kernel
    rw [e]
    exact h)
theorem sp_are_small {x : Str} (hx : Nm x) (k : ∀ S', Frm [] S S' → R (.bl true) S') : Cal w_are_small [.str x] S R Rx := by
  refine .mk ?_
  rw [w_are_small_eq]
  refine lc_ind (fun j acc S' => acc = [] ∧ Frm [] S S' ∧ S'[S.length]? = some (.lst []) ∧ S'.length = S.length + 1) _ (fun j acc S' h => ⟨trivial, by rw [h.1]; exact h.2.2.1, by rw [h.1]; simp⟩) ?_ ⟨rfl, .app _, get_last, by simp⟩ fun acc S' h => ?_
  · rintro j y acc S' R Z hy ⟨rfl, f, hq, hl⟩ _ kk
    have hm := List.mem_of_getElem? hy
    obtain ⟨c, hc, rfl⟩ := List.mem_map.mp hm
    obtain ⟨h1, h2⟩ := hx.sm c hc
    refine inG.sign c _ rfl rfl ?_
    have e : decide (c ∈ ("abcdefghijklmnopqrstuvwxyz" : Str).cps.toList) = true := decide_eq_true (small_mem c h1 h2)
    have e2 : (decide (c ∈ ("abcdefghijklmnopqrstuvwxyz" : Str).cps.toList) == false) = false := by rw [e]; rfl
    show ift (decide (c ∈ ("abcdefghijklmnopqrstuvwxyz" : Str).cps.toList) == false) _ _
    exact ifF e2 (kk S' ⟨rfl, f, hq, hl⟩)
  · obtain ⟨rfl, f, hq, hl⟩ := h
    refine ⟨Nat.zero_le _, ?_⟩
    have hq' : (S' ++ [Ob.lst []])[S.length]? = some (.lst []) := (Frm.app (W := []) _).get0 hq
    exact eq_nil hq' get_last (k _ (f.trans (.app _)))
theorem sp_is_name {x : Str} (hx : Nm x) (k : ∀ S', Frm [] S S' → R (.bl true) S') : Cal w_is_name [.str x] S R Rx := by
  refine .mk ?_
  rw [w_is_name_eq]
  have l0 := hx.l0
  have l8 := hx.l8
  have e0 : x.length = x.cps.size := rfl
  refine ifT rfl ?_
  refine ⟨sz5 (by omega), ?_⟩
  refine ifT (show decide ((0 : Int) < (x.length : Int)) = true from decide_eq_true (by omega)) ?_
  refine ifT (show decide ((x.length : Int) ≤ 8) = true from decide_eq_true (by omega)) ?_
  exact sp_are_small hx k
theorem sp_is_integer_i {i : Int} (h : R (.bl true) S) : Cal w_is_integer [.int i] S R Rx := by
  refine .mk ?_
  rw [w_is_integer_eq]
  exact ifT rfl h
theorem sp_is_number {i : Int} (hi : 0 ≤ i) (h : R (.bl true) S) : Cal w_is_number [.int i] S R Rx := by
  refine .mk ?_
  rw [w_is_number_eq]
  refine sp_is_integer_i (ifT rfl ?_)
  have e : decide (i ≥ 0) = true := decide_eq_true hi
  show R (.bl (decide (i ≥ 0))) S
  rw [e]
  exact h
/-- is_tuple of a tuple -/
theorem sp_is_tuple_t {xs : List D} {n : Int} (h : R (.bl (decide ((xs.length : Int) = n))) S) : Cal w_is_tuple [.tup xs, .int n] S R Rx := by
  refine .mk ?_
  rw [w_is_tuple_eq]
  exact ifT rfl h
def placedD (p : Str × Int) : D := .tup [.str p.1, .int p.2]
theorem sp_is_placed {p : Str × Int} (hx : Nm p.1) (hn : 0 ≤ p.2) (k : ∀ S', Frm [] S S' → R (.bl true) S') : Cal w_is_placed [placedD p] S R Rx := by
  refine .mk ?_
  rw [w_is_placed_eq]
  refine sp_is_tuple_t (ifT rfl (ix_at rfl (sp_is_name hx fun S' f => ifT rfl (ix_at rfl (sp_is_number hn (k S' f))))))
theorem sp_is_sign {p : Str × Int} (hx : Nm p.1) (hn : -1 ≤ p.2) (k : ∀ S', Frm [] S S' → R (.bl true) S') : Cal w_is_sign [placedD p] S R Rx := by
  refine .mk ?_
  rw [w_is_sign_eq]
  refine sp_is_tuple_t (ifT rfl (ix_at rfl (sp_is_name hx fun S' f => ifT rfl (ix_at rfl (sp_is_integer_i (ifT rfl (ix_at rfl ?_)))))))
  have e : decide (p.2 ≥ -1) = true := decide_eq_true hn
  show R (.bl (decide (p.2 ≥ -1))) S'
  rw [e]
  exact k S' f
theorem sp_many_of {p : Str × Int} (h : R (.int (max p.2 0)) S) : Cal w_many_of [placedD p] S R Rx := by
  refine .mk ?_
  rw [w_many_of_eq]
  refine ix_at rfl ?_
  have e : (if (0 : Int) > p.2 then 0 else p.2) = max p.2 0 := by omega
  show R (.int (if (0 : Int) > p.2 then 0 else p.2)) S
  rw [e]
  exact h
/-! ### data that can be compared -/
structure Sh (n : Nat) (d : D) : Prop where
  pl : Pl d
  lay : (toP d).canLay0 = true
  dp : (toP d).depth ≤ n
theorem Sh.mono {n m : Nat} {d : D} (h : Sh n d) (l : n ≤ m) : Sh m d := ⟨h.pl, h.lay, Nat.le_trans h.dp l⟩
theorem sh_int {i : Int} : Sh 0 (.int i) := ⟨pl_int, by rw [toP_int]; rfl, by rw [toP_int]; simp [PyData.depth]⟩
theorem sh_non : Sh 0 .non := ⟨pl_non, by rw [toP_non]; rfl, by rw [toP_non]; simp [PyData.depth]⟩
theorem sh_str {x : Str} (h : PySem.PyData.strOk x = true) : Sh 0 (.str x) := ⟨pl_str, by rw [toP_str]; simpa [PyData.canLay0] using h, by rw [toP_str]; simp [PyData.depth]⟩
theorem Sh.all {n : Nat} : ∀ {xs : List D}, (∀ x ∈ xs, Sh n x) → PyData.canLayAll0 (toPs xs) = true ∧ PyData.depthAll (toPs xs) ≤ n
  | [], _ => by rw [toPs_nil]; exact ⟨by simp [PyData.canLayAll0], by simp [PyData.depthAll]⟩
  | x :: xs, h => by
    obtain ⟨h1, h2⟩ := Sh.all (xs := xs) fun y hy => h y (by simp [hy])
    have hx := h x (by simp)
    rw [toPs_cons]
    refine ⟨by simp [PyData.canLayAll0, h1, hx.lay], ?_⟩
    have := hx.dp
    simp only [PyData.depthAll]
    omega
theorem sh_tup {n : Nat} {xs : List D} (h : ∀ x ∈ xs, Sh n x) : Sh (n + 1) (.tup xs) := by
  obtain ⟨h1, h2⟩ := Sh.all h
  refine ⟨pl_tup.mpr (pls_all fun x hx => (h x hx).pl), by rw [toP_tup]; simpa [PyData.canLay0] using h1, ?_⟩
  rw [toP_tup]
  simp only [PyData.depth]
  omega
theorem Sh.shaped {n : Nat} {d : D} (h : Sh n d) (l : n ≤ 64) : SeqAt.shaped (toP d) = true := by
  unfold SeqAt.shaped
  rw [h.lay, Bool.true_and]
  exact decide_eq_true (Nat.le_trans h.dp l)
theorem shaped_list {n : Nat} {xs : List D} (h : ∀ x ∈ xs, Sh n x) (l : n + 1 ≤ 64) : SeqAt.shaped (.list (toPs xs)) = true := by
  obtain ⟨h1, h2⟩ := Sh.all h
  unfold SeqAt.shaped
  have e1 : (PyData.list (toPs xs)).canLay0 = true := by simpa [PyData.canLay0] using h1
  have e2 : (PyData.list (toPs xs)).depth ≤ 64 := by simp only [PyData.depth]; omega
  rw [e1, Bool.true_and]
  exact decide_eq_true e2
theorem Sh.refl {n : Nat} {d : D} (h : Sh n d) : PyData.eqv (toP d) (toP d) = true := SeqAt.eqv_refl _ h.lay
/-- the same data == -/
theorem eq_tup {n m : Nat} {xs ys : List D} (hx : Sh n (.tup xs)) (hy : Sh m (.tup ys)) (hn : n ≤ 64) (hm : m ≤ 64) (h : R (.bl (PyData.eqv (toP (.tup xs)) (toP (.tup ys)))) S) : eqA (.tup xs) (.tup ys) S R :=
  .mk _ _ (.pl hx.pl) (.pl hy.pl) (hx.shaped hn) (hy.shaped hm) (by rw [beq_true]; exact h)
/-- the list is not empty: == [] is False -/
theorem ne_nil {k n m : Nat} {x : D} {xs : List D} (hn : S[n]? = some (.lst (x :: xs))) (hs : ∀ y ∈ x :: xs, Sh k y) (hk : k + 1 ≤ 64) (hm : S[m]? = some (.lst [])) (h : R (.bl false) S) : eqA (.ref n) (.ref m) S R :=
  .mk _ _ (.lst hn (pls_all fun y hy => (hs y hy).pl)) (.lst hm pls_nil) (shaped_list hs hk) (by rw [toPs_nil]; decide +kernel) (by
    have e : (PyData.eqv (.list (toPs (x :: xs))) (.list (toPs [])) == true) = false := by rw [toPs_nil, toPs_cons]; simp [PyData.eqv, PyData.eqvAll]
    rw [e]
    exact h)
/-- x in ys, ys a tuple of data -/
theorem in_tup {z : Bool} {n m : Nat} {x : D} {ys : List D} (hx : Sh n x) (hy : ∀ y ∈ ys, Sh m y) (hn : n ≤ 64) (hm : m + 1 ≤ 64) (hmem : x ∈ ys) (h : R (.bl (true == z)) S) : inD z x (.tup ys) S R := by
  have hp : ∀ {d : D} {S : Sto} {p : PyData}, Dat d S p → Dat d S p := fun h => h
  have e0 : Dat (.tup ys) S (.tuple (toPs ys)) := by
    have := Dat.pl (S := S) (sh_tup hy).pl
    rwa [toP_tup] at this
  refine inG.tup (toP x) (toPs ys) (.pl hx.pl) e0 (hx.shaped hn) (by have := (sh_tup hy).shaped (show m + 1 ≤ 64 from hm); rwa [toP_tup] at this) ?_
  have e : ((toPs ys).any fun q => PyData.eqv q (toP x)) = true := by
    rw [toPs_map, List.any_map, List.any_eq_true]
    exact ⟨x, hmem, hx.refl⟩
  rw [e]
  exact h
/-! ### terms -/
theorem Nm.ok {x : Str} (h : Nm x) : PySem.PyData.strOk x = true := by
  unfold PySem.PyData.strOk
  rw [Array.all_eq_true']
  intro c hc
  have := h.sm c (by simpa using hc)
  exact decide_eq_true (by omega)
theorem sh_placed {p : Str × Int} (h : Nm p.1) : Sh 1 (placedD p) := sh_tup fun x hx => by
  simp only [List.mem_cons, List.not_mem_nil, or_false] at hx
  rcases hx with rfl | rfl
  · exact sh_str h.ok
  · exact sh_int
/-- what is due behind these signs -/
def walkT : Nat → List (Str × Int) → Option Nat
  | d, [] => some d
  | 0, _ :: _ => none
  | d + 1, p :: r => walkT (d + p.2.toNat) r
def termD (t : List (Str × Int)) : D := .tup (t.map placedD)
structure Tm (mks : List (Str × Int)) (t : List (Str × Int)) : Prop where
  w : walkT 1 t = some 0
  nm : ∀ p ∈ t, Nm p.1 ∧ -1 ≤ p.2
  mem : ∀ p ∈ t, p.2 ≠ -1 → p ∈ mks
  ln : t.length ≤ 1000
theorem lf_term {E : DEnds} {v : Option D} : ∀ (ps : List (Str × Int)) (i d : Nat) (r2 r3 : Option D) (S : Sto), (∀ p ∈ ps, Nm p.1 ∧ -1 ≤ p.2) → walkT d ps = some 0 →
    (∀ r2 r3 S', Frm [] S S' → E.nx [v, some (.int 0), r2, r3] S') → forW noG (gTp 2 (gsCons (gNm 2) (gsCons (gNm 3) gsNil))) f1_term_fault E (enumD i (ps.map placedD)) [v, some (.int (d : Int)), r2, r3] S
  | [], i, d, r2, r3, S, hp, hw, k => by
    have e : d = 0 := by simpa [walkT] using hw
    subst e
    exact ⟨trivial, k _ _ S .refl⟩
  | p :: ps, i, 0, r2, r3, S, hp, hw, k => by simp [walkT] at hw
  | p :: ps, i, d + 1, r2, r3, S, hp, hw, k => by
    obtain ⟨h1, h2⟩ := hp p (by simp)
    have e0 : decide (((d + 1 : Nat) : Int) = 0) = false := decide_eq_false (by omega)
    refine ⟨trivial, rfl, ifF e0 (sp_is_sign h1 h2 fun S1 f1 => ?_)⟩
    refine ifF rfl (sp_many_of ?_)
    have e : ((d + 1 : Nat) : Int) + (max p.2 0 - 1) = ((d + p.2.toNat : Nat) : Int) := by omega
    show forW noG _ _ E (enumD (i + 1) (ps.map placedD)) [v, some (.int (((d + 1 : Nat) : Int) + (max p.2 0 - 1))), some (.int i), some (placedD p)] S1
    rw [e]
    exact lf_term ps (i + 1) (d + p.2.toNat) _ _ S1 (fun q hq => hp q (by simp [hq])) hw fun r2 r3 S' f => k r2 r3 S' (f1.trans f)
theorem sp_is_term {mks t : List (Str × Int)} (h : Tm mks t) (k : ∀ S', Frm [] S S' → R (.bl true) S') : Cal w_is_term [termD t] S R Rx := by
  refine .mk ?_
  rw [w_is_term_eq]
  refine Cal.mk ?_
  rw [w_term_fault_eq]
  refine ifF rfl ?_
  exact lf_term t 0 1 none none S h.nm h.w fun r2 r3 S' f => ifT rfl (k S' f)
theorem lc_makers {n : Nat} {mks : List (Str × Int)} {a b : Option D} {Rq : Sto → Prop} (hm : ∀ p ∈ mks, Nm p.1) : ∀ (ps : List (Str × Int)) (S : Sto), (∀ p ∈ ps, Nm p.1 ∧ -1 ≤ p.2) → (∀ p ∈ ps, p.2 ≠ -1 → p ∈ mks) → S[n]? = some (.lst []) → Rq S →
    lcW n noG (gNm 2) q1_are_makers_signs v1_are_makers_signs [some (termD mks), b, none] Rq (ps.map placedD) S
  | [], S, h1, h2, hn, k => ⟨trivial, k⟩
  | p :: ps, S, h1, h2, hn, k => by
    have ih := lc_makers (a := a) (b := b) (Rq := Rq) hm ps S (fun q hq => h1 q (by simp [hq])) (fun q hq => h2 q (by simp [hq])) hn k
    refine ⟨trivial, ix_at rfl ?_⟩
    show ift (!decide (p.2 = -1)) _ _
    refine ifB (fun e => ?_) fun e => ifF rfl ih
    have hne : p.2 ≠ -1 := by simpa using e
    refine in_tup (n := 1) (m := 1) (x := placedD p) (ys := mks.map placedD) (sh_placed (h1 p (by simp)).1) (fun y hy => ?_) (by decide) (by decide) (List.mem_map_of_mem (h2 p (by simp) hne)) ?_
    · obtain ⟨q, hq, rfl⟩ := List.mem_map.mp hy
      exact sh_placed (hm q hq)
    · exact ifF rfl ih
theorem sp_are_makers_signs {mks t : List (Str × Int)} (hm : ∀ p ∈ mks, Nm p.1) (h : Tm mks t) (k : ∀ S', Frm [] S S' → R (.bl true) S') : Cal w_are_makers_signs [termD mks, termD t] S R Rx := by
  refine .mk ?_
  rw [w_are_makers_signs_eq]
  refine lc_makers (a := none) hm t _ h.nm h.mem get_last ⟨Nat.zero_le _, ?_⟩
  have hq' : (S ++ [Ob.lst []] ++ [Ob.lst []])[S.length]? = some (.lst []) := (Frm.app (W := []) _).get0 get_last
  exact eq_nil hq' get_last (k _ ((Frm.app _).trans (.app _)))
/-! ### lines, rules -/
def lineD (l : Str × List (List (Str × Int))) : D := .tup [.str l.1, .tup (l.2.map termD)]
structure Ln (rels mks : List (Str × Int)) (l : Str × List (List (Str × Int))) : Prop where
  nm : Nm l.1
  mem : (l.1, (l.2.length : Int)) ∈ rels
  tm : ∀ t ∈ l.2, Tm mks t
  ln : l.2.length ≤ 1000
theorem Tm.sh {mks t : List (Str × Int)} (h : Tm mks t) : Sh 2 (termD t) := sh_tup fun x hx => by
  obtain ⟨p, hp, rfl⟩ := List.mem_map.mp hx
  exact sh_placed (h.nm p hp).1
theorem Ln.sh {rels mks : List (Str × Int)} {l : Str × List (List (Str × Int))} (h : Ln rels mks l) : Sh 4 (lineD l) := sh_tup fun x hx => by
  simp only [List.mem_cons, List.not_mem_nil, or_false] at hx
  rcases hx with rfl | rfl
  · exact (sh_str h.nm.ok).mono (by decide)
  · refine sh_tup (n := 2) fun y hy => ?_
    obtain ⟨t, ht, rfl⟩ := List.mem_map.mp hy
    exact (h.tm t ht).sh
theorem lc_terms {n : Nat} {mks : List (Str × Int)} {a c : Option D} {Rq : Sto → Prop} (hm : ∀ p ∈ mks, Nm p.1) : ∀ (ts : List (List (Str × Int))) (S : Sto), (∀ t ∈ ts, Tm mks t) → S[n]? = some (.lst []) → (∀ S', Frm [] S S' → S'[n]? = some (.lst []) → Rq S') →
    lcW n noG (gNm 3) q1_is_rule_line v1_is_rule_line [a, some (termD mks), c, none] Rq (ts.map termD) S
  | [], S, h, hn, k => ⟨trivial, k S .refl hn⟩
  | t :: ts, S, h, hn, k => by
    have ht := h t (by simp)
    refine ⟨trivial, sp_is_term ht fun S1 f1 => ifF rfl (sp_are_makers_signs hm ht fun S2 f2 => ifF rfl ?_)⟩
    exact lc_terms hm ts S2 (fun u hu => h u (by simp [hu])) ((f1.trans f2).get0 hn) fun S' f hn' => k S' ((f1.trans f2).trans f) hn'
theorem lstE {n : Nat} {xs : List D} {R : List D → Prop} (h : S[n]? = some (.lst xs)) (k : R xs) : lstAt n S R := lst_at h k
theorem sp_is_rule_line {rels mks : List (Str × Int)} {l : Str × List (List (Str × Int))} (hr : ∀ p ∈ rels, Nm p.1) (hm : ∀ p ∈ mks, Nm p.1) (h : Ln rels mks l) (k : ∀ S', Frm [] S S' → R (.bl true) S') : Cal w_is_rule_line [termD rels, termD mks, lineD l] S R Rx := by
  refine .mk ?_
  rw [w_is_rule_line_eq]
  refine sp_is_tuple_t (ifF rfl (ix_at rfl (sp_is_name h.nm fun S1 f1 => ifF rfl (ix_at rfl (ifF rfl ?_)))))
  refine ix_at rfl (ix_at rfl ⟨sz5 (show 2 ≤ 100000 by decide), ?_⟩)
  have e1 : D.tup [.str l.1, .int ((l.2.map termD).length : Int)] = placedD (l.1, (l.2.length : Int)) := by rw [List.length_map]; rfl
  show inD false (.tup [.str l.1, .int ((l.2.map termD).length : Int)]) _ _ _
  rw [e1]
  refine in_tup (n := 1) (m := 1) (ys := rels.map placedD) (sh_placed h.nm) (fun y hy => ?_) (by decide) (by decide) (List.mem_map_of_mem h.mem) (ifF rfl ?_)
  · obtain ⟨q, hq, rfl⟩ := List.mem_map.mp hy
    exact sh_placed (hr q hq)
  refine ix_at rfl ?_
  refine lc_terms hm l.2 _ h.tm get_last fun S2 f2 hn => ⟨Nat.zero_le _, ?_⟩
  have hn' : (S2 ++ [Ob.lst []])[S1.length]? = some (.lst []) := (Frm.app (W := []) _).get0 hn
  exact eq_nil hn' get_last (k _ (f1.trans (((Frm.app _).trans f2).trans (.app _))))
def ruleD (u : List (Str × List (List (Str × Int))) × (Str × List (List (Str × Int)))) : D := .tup [.tup (u.1.map lineD), lineD u.2]
structure Ru (rels mks : List (Str × Int)) (u : List (Str × List (List (Str × Int))) × (Str × List (List (Str × Int)))) : Prop where
  ls : ∀ l ∈ u.1, Ln rels mks l
  l : Ln rels mks u.2
  ln : u.1.length ≤ 1000
theorem Ru.sh {rels mks : List (Str × Int)} {u : List (Str × List (List (Str × Int))) × (Str × List (List (Str × Int)))} (h : Ru rels mks u) : Sh 6 (ruleD u) := sh_tup fun x hx => by
  simp only [List.mem_cons, List.not_mem_nil, or_false] at hx
  rcases hx with rfl | rfl
  · refine sh_tup (n := 4) fun y hy => ?_
    obtain ⟨t, ht, rfl⟩ := List.mem_map.mp hy
    exact (h.ls t ht).sh
  · exact h.l.sh.mono (by decide)
theorem lc_lines {n : Nat} {rels mks : List (Str × Int)} {c : Option D} {Rq : Sto → Prop} (hr : ∀ p ∈ rels, Nm p.1) (hm : ∀ p ∈ mks, Nm p.1) : ∀ (ls : List (Str × List (List (Str × Int)))) (S : Sto), (∀ t ∈ ls, Ln rels mks t) → S[n]? = some (.lst []) → (∀ S', Frm [] S S' → S'[n]? = some (.lst []) → Rq S') →
    lcW n noG (gNm 3) q1_is_rule v1_is_rule [some (termD rels), some (termD mks), c, none] Rq (ls.map lineD) S
  | [], S, h, hn, k => ⟨trivial, k S .refl hn⟩
  | t :: ts, S, h, hn, k => by
    refine ⟨trivial, sp_is_rule_line hr hm (h t (by simp)) fun S1 f1 => ifF rfl ?_⟩
    exact lc_lines hr hm ts S1 (fun u hu => h u (by simp [hu])) (f1.get0 hn) fun S' f hn' => k S' (f1.trans f) hn'
theorem sp_is_rule {rels mks : List (Str × Int)} {u : List (Str × List (List (Str × Int))) × (Str × List (List (Str × Int)))} (hr : ∀ p ∈ rels, Nm p.1) (hm : ∀ p ∈ mks, Nm p.1) (h : Ru rels mks u) (k : ∀ S', Frm [] S S' → R (.bl true) S') : Cal w_is_rule [termD rels, termD mks, ruleD u] S R Rx := by
  refine .mk ?_
  rw [w_is_rule_eq]
  refine sp_is_tuple_t (ifF rfl (ix_at rfl (ifF rfl (ix_at rfl ?_))))
  have hl := h.ln
  have e1 : u.1.map lineD ++ DL.cutD [.tup (u.1.map lineD), lineD u.2] (some 1) none = (u.1 ++ [u.2]).map lineD := by rw [List.map_append]; rfl
  refine ⟨?_, ?_⟩
  · refine sz5 ?_
    show (u.1.map lineD).length + [lineD u.2].length ≤ 100000
    rw [List.length_map]
    simp
    omega
  show lcW S.length noG (gNm 3) q1_is_rule v1_is_rule _ _ (u.1.map lineD ++ DL.cutD [.tup (u.1.map lineD), lineD u.2] (some 1) none) _
  rw [e1]
  refine lc_lines hr hm (u.1 ++ [u.2]) _ (fun t ht => ?_) get_last fun S2 f2 hn => ⟨Nat.zero_le _, ?_⟩
  · rcases List.mem_append.mp ht with ht | ht
    · exact h.ls t ht
    · rw [List.mem_singleton.mp ht]; exact h.l
  have hn' : (S2 ++ [Ob.lst []])[S.length]? = some (.lst []) := (Frm.app (W := []) _).get0 hn
  exact eq_nil hn' get_last (k _ (((Frm.app _).trans f2).trans (.app _)))
theorem sp_is_rule_non {r m : D} (h : R (.bl false) S) : Cal w_is_rule [r, m, .non] S R Rx := by
  refine .mk ?_
  rw [w_is_rule_eq]
  refine Cal.mk ?_
  rw [w_is_tuple_eq]
  exact ifF rfl (ifT rfl (ifT rfl h))
/-! ### the first wrong one -/
abbrev fnL : List (Str × DSp) := [("is_price", w_is_price), ("is_placed", w_is_placed)]
theorem lf_wrong {E : DEnds} {v : Option D} {f : Str} {sp : DSp} (hf : fnL.lookup f = some sp) : ∀ (xs : List D) (i : Nat) (r2 r3 : Option D) (S : Sto), (∀ x ∈ xs, ∀ S (R : RD), (∀ S', Frm [] S S' → R (.bl true) S') → Cal sp [x] S R noX) →
    (∀ r2 r3 S', Frm [] S S' → E.nx [v, some (.fn f), r2, r3] S') → forW noG (gTp 2 (gsCons (gNm 2) (gsCons (gNm 3) gsNil))) f1_first_wrong E (enumD i xs) [v, some (.fn f), r2, r3] S
  | [], i, r2, r3, S, hp, k => ⟨trivial, k _ _ S .refl⟩
  | x :: xs, i, r2, r3, S, hp, k => by
    refine ⟨trivial, rfl, ?_⟩
    show (match fnL.lookup f with
      | some sp => _
      | none => False)
    rw [hf]
    refine hp x (by simp) S _ fun S1 f1 => ?_
    refine ifF rfl ?_
    exact lf_wrong hf xs (i + 1) _ _ S1 (fun q hq => hp q (by simp [hq])) fun r2 r3 S' f => k r2 r3 S' (f1.trans f)
theorem lf_wrong1 {E : DEnds} {v : Option D} {f : Str} {sp : DSp} {z : D} {rest : List D} (hf : fnL.lookup f = some sp) (hz : ∀ S (R : RD), Frm [] S S → (∀ S', Frm [] S S' → R (.bl false) S') → True) : ∀ (xs : List D) (i : Nat) (r2 r3 : Option D) (S : Sto), (∀ x ∈ xs, ∀ S (R : RD), (∀ S', Frm [] S S' → R (.bl true) S') → Cal sp [x] S R noX) →
    (∀ S' (R : RD), Frm [] S S' → (∀ S'', Frm [] S' S'' → R (.bl false) S'') → Cal sp [z] S' R noX) →
    (∀ S', Frm [] S S' → E.rt (.int ((i + xs.length : Nat) : Int)) S') → forW noG (gTp 2 (gsCons (gNm 2) (gsCons (gNm 3) gsNil))) f1_first_wrong E (enumD i (xs ++ z :: rest)) [v, some (.fn f), r2, r3] S
  | [], i, r2, r3, S, hp, hw, k => by
    refine ⟨trivial, rfl, ?_⟩
    show (match fnL.lookup f with
      | some sp => _
      | none => False)
    rw [hf]
    exact hw S _ .refl fun S1 f1 => ifT rfl (k S1 f1)
  | x :: xs, i, r2, r3, S, hp, hw, k => by
    refine ⟨trivial, rfl, ?_⟩
    show (match fnL.lookup f with
      | some sp => _
      | none => False)
    rw [hf]
    refine hp x (by simp) S _ fun S1 f1 => ?_
    refine ifF rfl ?_
    refine lf_wrong1 hf hz xs (i + 1) _ _ S1 (fun q hq => hp q (by simp [hq])) (fun S' R f => hw S' R (f1.trans f)) fun S' f => ?_
    have e : i + 1 + xs.length = i + (x :: xs).length := by simp; omega
    rw [e]
    exact k S' (f1.trans f)
theorem sp_first_ok {f : Str} {sp : DSp} {xs : List D} (hf : fnL.lookup f = some sp) (hp : ∀ x ∈ xs, ∀ S (R : RD), (∀ S', Frm [] S S' → R (.bl true) S') → Cal sp [x] S R noX) (k : ∀ S', Frm [] S S' → R (.int (-1)) S') : Cal w_first_wrong [.tup xs, .fn f] S R Rx := by
  refine .mk ?_
  rw [w_first_wrong_eq]
  exact lf_wrong hf xs 0 none none S hp fun r2 r3 S' f => k S' f
theorem sp_first_bad {f : Str} {sp : DSp} {xs rest : List D} {z : D} (hf : fnL.lookup f = some sp) (hp : ∀ x ∈ xs, ∀ S (R : RD), (∀ S', Frm [] S S' → R (.bl true) S') → Cal sp [x] S R noX)
    (hw : ∀ S' (R : RD), Frm [] S S' → (∀ S'', Frm [] S' S'' → R (.bl false) S'') → Cal sp [z] S' R noX) (k : ∀ S', Frm [] S S' → R (.int (xs.length : Int)) S') : Cal w_first_wrong [.tup (xs ++ z :: rest), .fn f] S R Rx := by
  refine .mk ?_
  rw [w_first_wrong_eq]
  refine lf_wrong1 hf (fun _ _ _ _ => trivial) xs 0 none none S hp hw fun S' f => ?_
  rw [Nat.zero_add]
  exact k S' f
/-! ### relations and makers -/
def Asc (ps : List (Str × Int)) : Prop := ps.Pairwise fun p q => p.1.cps.toList < q.1.cps.toList
theorem lc_names {n : Nat} {a b c : Option D} {Rq : Sto → Prop} : ∀ (ps : List (Str × Int)) (acc : List D) (S : Sto), acc.length + ps.length ≤ 100000 → S[n]? = some (.lst acc) → (∀ S', Frm [n] S S' → S'[n]? = some (.lst (acc ++ ps.map fun p => .str p.1)) → Rq S') →
    lcW n noG (gTp 2 (gsCons (gNm 4) (gsCons (gNm 2) gsNil))) tYesD v1_are_placed [a, b, none, c, none] Rq (ps.map placedD) S
  | [], acc, S, hl, hn, k => ⟨trivial, k S .refl (by simpa using hn)⟩
  | p :: ps, acc, S, hl, hn, k => by
    have ln := lt_of_get hn
    have hs : 100000 < sizeLine := by decide
    simp only [List.length_cons] at hl
    refine ⟨trivial, rfl, ifT rfl (mlst_at hn ⟨by omega, ?_⟩)⟩
    refine lc_names ps (acc ++ [.str p.1]) _ (by simp; omega) (by rw [List.getElem?_set_self ln]) fun S' f hn' => k S' ((Frm.set (by simp)).trans f) ?_
    rw [hn', List.append_assoc]
    rfl
theorem sp_is_ascending {q : Nat} {ps : List (Str × Int)} (hq : S[q]? = some (.lst (ps.map fun p => .str p.1))) (hl : ps.length ≤ 1000) (ha : Asc ps) (h : R (.bl true) S) : Cal w_is_ascending [.ref q] S R Rx := by
  refine .mk ?_
  rw [w_is_ascending_eq]
  refine lst_at hq ?_
  have e0 : (List.map (fun p : Str × Int => D.str p.1) ps).length = ps.length := List.length_map ..
  refine ⟨⟨by omega, by omega⟩, ?_⟩
  rw [e0]
  refine for_ind (fun j ρ S' => S' = S ∧ ∃ r, ρ = [some (.ref q), r]) _ (fun _ _ _ _ => trivial) ?_ ⟨rfl, none, rfl⟩ ?_
  · rintro j x ρ S' E' hx ⟨rfl, r, rfl⟩ e1 e2 e3 kk _
    obtain ⟨hj, rfl⟩ := getElem_range hx
    have hj1 : j + 1 < ps.length := by omega
    have g1 : atI (ps.map fun p : Str × Int => D.str p.1) (0 + (j : Int)) = some (.str ps[j].1) := by
      rw [Int.zero_add]
      exact atI_nat (by simp [show j < ps.length by omega])
    have g2 : atI (ps.map fun p : Str × Int => D.str p.1) (0 + (j : Int) + 1) = some (.str ps[j + 1].1) := by
      rw [Int.zero_add, show (j : Int) + 1 = ((j + 1 : Nat) : Int) by omega]
      exact atI_nat (by simp [hj1])
    refine lst_at hq (ix_at g1 (lst_at hq (ix_at g2 ?_)))
    have lt := List.pairwise_iff_getElem.mp ha j (j + 1) (by omega) hj1 (by omega)
    refine ifF (b := !decide (ps[j].1.cps.toList < ps[j + 1].1.cps.toList)) (by rw [decide_eq_true lt]; rfl) (kk _ _ ⟨rfl, _, rfl⟩)
  · rintro ρ S' ⟨rfl, r, rfl⟩
    exact h
theorem lc_least {n : Nat} {a c : Option D} {least : Int} {Rq : Sto → Prop} : ∀ (ps : List (Str × Int)) (S : Sto), (∀ p ∈ ps, least ≤ p.2) → S[n]? = some (.lst []) → Rq S →
    lcW n noG (gTp 2 (gsCons (gNm 2) (gsCons (gNm 3) gsNil))) q1_are_placed v2_are_placed [a, some (.int least), none, none, c] Rq (ps.map placedD) S
  | [], S, h, hn, k => ⟨trivial, k⟩
  | p :: ps, S, h, hn, k => by
    have h1 := h p (by simp)
    refine ⟨trivial, rfl, ?_⟩
    refine ifF (b := decide (p.2 < least)) (decide_eq_false (by omega)) ?_
    exact lc_least ps S (fun q hq => h q (by simp [hq])) hn k
theorem sp_are_placed {ps : List (Str × Int)} {least : Int} (hl : ps.length ≤ 1000) (h0 : 0 ≤ least) (hp : ∀ p ∈ ps, Nm p.1 ∧ least ≤ p.2) (ha : Asc ps) (k : ∀ S', Frm [] S S' → R (.bl true) S') : Cal w_are_placed [termD ps, .int least] S R Rx := by
  refine .mk ?_
  rw [w_are_placed_eq]
  refine Cal.mk ?_
  rw [w_is_tuple_of_eq]
  refine ifT rfl (sp_first_ok (f := "is_placed") (sp := w_is_placed) rfl (fun x hx S R k => ?_) fun S1 f1 => ifF rfl ?_)
  · obtain ⟨p, hp', rfl⟩ := List.mem_map.mp hx
    exact sp_is_placed (hp p hp').1 (by have := (hp p hp').2; omega) k
  refine lc_names ps [] _ (by simp; omega) get_last fun S2 f2 hn => ?_
  refine sp_is_ascending (ps := ps) (by simpa using hn) hl ha (ifF rfl ?_)
  have F2 : Frm [] S1 S2 := by
    refine ⟨?_, fun i hi _ => ?_⟩
    · have := f2.len
      simp at this
      omega
    · rw [f2.at_ i (by simp; omega) (by simp; omega), List.getElem?_append_left hi]
  refine lc_least ps _ (fun p hp' => (hp p hp').2) get_last ⟨Nat.zero_le _, ?_⟩
  have hq' : (S2 ++ [Ob.lst []] ++ [Ob.lst []])[S2.length]? = some (.lst []) := (Frm.app (W := []) _).get0 get_last
  exact eq_nil hq' get_last (k _ (f1.trans (F2.trans ((Frm.app _).trans (.app _)))))
/-! ### shared names -/
theorem key_str {x : Str} : keyB false (.str x) = true := by simp [keyB, nkD, sortK]
theorem dc_names {n : Nat} {a b : Option D} {Rq : List (D × D) → Sto → Prop} : ∀ (ps : List (Str × Int)) (kvs : List (D × D)) (S : Sto), kvs.length + ps.length ≤ 100000 → S[n]? = some (.dkK kvs) →
    (∀ kvs' S', Frm [n] S S' → S'[n]? = some (.dkK kvs') → (∀ x, look kvs x = none → (∀ p ∈ ps, D.str p.1 ≠ x) → look kvs' x = none) → Rq kvs' S') →
    dcW n noG (gTp 2 (gsCons (gNm 5) (gsCons (gNm 6) gsNil))) tYesD k1_shared_name v1_shared_name [a, b, none, none, none, none, none] Rq (ps.map placedD) S
  | [], kvs, S, hl, hn, k => ⟨trivial, .mk kvs hn (k kvs S .refl hn fun x h _ => h)⟩
  | p :: ps, kvs, S, hl, hn, k => by
    have ln := lt_of_get hn
    have hs : 100000 < sizeLine := by decide
    simp only [List.length_cons] at hl
    have l1 := put_len (kvs := kvs) (k := D.str p.1) (v := D.bl true)
    refine ⟨trivial, rfl, ifT rfl (.mk kvs hn ⟨by omega, key_str, ?_⟩)⟩
    refine dc_names ps (putP kvs (.str p.1) (.bl true)) _ (by omega) (by rw [List.getElem?_set_self ln]) fun kvs' S' f hn' hx => k kvs' S' ((Frm.set (by simp)).trans f) hn' fun x h0 h1 => hx x ?_ fun q hq => h1 q (by simp [hq])
    rw [look_put, if_neg (h1 p (by simp))]
    exact h0
theorem lf_shared {E : DEnds} {a b : Option D} {n : Nat} {kvs : List (D × D)} {ep : Nat} {r5 r6 : Option D} : ∀ (ps : List (Str × Int)) (i : Nat) (r3 r4 : Option D) (S : Sto), S[n]? = some (.dic false ep kvs) → (∀ p ∈ ps, look kvs (.str p.1) = none) →
    (∀ r3 r4, E.nx [a, b, some (.ref n), r3, r4, r5, r6] S) → forW noG (gTp 2 (gsCons (gNm 3) (gsCons (gNm 4) gsNil))) f1_shared_name E (enumD i (ps.map placedD)) [a, b, some (.ref n), r3, r4, r5, r6] S
  | [], i, r3, r4, S, hn, hp, k => ⟨trivial, k _ _⟩
  | p :: ps, i, r3, r4, S, hn, hp, k => by
    refine ⟨trivial, rfl, ix_at rfl (inG.dic n false ep kvs rfl hn key_str ?_)⟩
    have e : ((look kvs (.str p.1)).isSome == true) = false := by rw [hp p (by simp)]; rfl
    refine ifF e ?_
    exact lf_shared ps (i + 1) _ _ S hn (fun q hq => hp q (by simp [hq])) k
theorem sp_shared_name {rels mks : List (Str × Int)} (hl : rels.length ≤ 1000) (dj : ∀ p ∈ rels, ∀ q ∈ mks, p.1 ≠ q.1) (k : ∀ S', Frm [] S S' → R (.int (-1)) S') : Cal w_shared_name [termD rels, termD mks] S R Rx := by
  refine .mk ?_
  rw [w_shared_name_eq]
  refine dc_names rels [] _ (by simp; omega) get_last fun kvs S2 f2 hn hx ep => ?_
  have l2 := lt_of_get hn
  refine lf_shared mks 0 none none _ (List.getElem?_set_self l2) (fun q hq => hx _ (by rfl) fun p hp e => dj p hp q hq (by injection e)) fun r3 r4 => k _ ?_
  refine ⟨?_, fun i hi _ => ?_⟩
  · have := f2.len
    simp at this ⊢
    omega
  · rw [List.getElem?_set_ne (by omega), f2.at_ i (by simp; omega) (by simp; omega), List.getElem?_append_left hi]
/-! ### books -/
structure BookAt (n : Nat) (r m u : D) (S : Sto) : Prop where
  at_ : S[n]? = some (.ins "Book" [("relations", r), ("makers", m), ("rules", u)])
theorem BookAt.frm {n : Nat} {r m u : D} {S S' : Sto} (b : BookAt n r m u S) (f : Frm [] S S') : BookAt n r m u S' := ⟨f.get0 b.at_⟩
section
variable {n : Nat} {r m u : D} {k : D → Prop}
theorem BookAt.rel (b : BookAt n r m u S) (hk : k r) : fldAt ["Book"] n "relations" S k := .mk _ _ _ b.at_ (by simp) rfl hk
theorem BookAt.mak (b : BookAt n r m u S) (hk : k m) : fldAt ["Book"] n "makers" S k := .mk _ _ _ b.at_ (by simp) rfl hk
theorem BookAt.rul (b : BookAt n r m u S) (hk : k u) : fldAt ["Book"] n "rules" S k := .mk _ _ _ b.at_ (by simp) rfl hk
end
abbrev RuT := List (Str × List (List (Str × Int))) × (Str × List (List (Str × Int)))
structure KitOk (rels mks : List (Str × Int)) (rules : List RuT) : Prop where
  r0 : rels ≠ []
  rl : rels.length ≤ 1000
  ml : mks.length ≤ 1000
  ul : rules.length ≤ 1000
  rn : ∀ p ∈ rels, Nm p.1 ∧ 1 ≤ p.2
  mn : ∀ p ∈ mks, Nm p.1 ∧ 0 ≤ p.2
  ra : Asc rels
  ma : Asc mks
  dj : ∀ p ∈ rels, ∀ q ∈ mks, p.1 ≠ q.1
  ru : ∀ u ∈ rules, Ru rels mks u
def rulesD (us : List RuT) : D := .tup (us.map ruleD)
theorem sp_fault_form {n : Nat} {r m : D} (b : BookAt n r m .non S) (k : R (.tup [.str "form", .int (-1)]) S) : Cal w_book_fault [.ref n] S R Rx := by
  refine .mk ?_
  rw [w_book_fault_eq]
  exact b.rul (ifT rfl ⟨sz5 (show 2 ≤ 100000 by decide), k⟩)
theorem eqv_nil : PyData.eqv (toP (.tup [])) (toP (.tup [])) = true := by rw [toP_tup, toPs_nil]; decide +kernel
theorem eqv_cons_nil {x : D} {xs : List D} : PyData.eqv (toP (.tup (x :: xs))) (toP (.tup [])) = false := by rw [toP_tup, toP_tup, toPs_nil, toPs_cons]; simp [PyData.eqv, PyData.eqvAll]
theorem sp_fault_rel {n : Nat} {m : D} {us : List D} (b : BookAt n (.tup []) m (.tup us) S) (k : ∀ S', Frm [] S S' → R (.tup [.str "relations", .int (-1)]) S') : Cal w_book_fault [.ref n] S R Rx := by
  refine .mk ?_
  rw [w_book_fault_eq]
  refine b.rul (ifF rfl (b.rel (sp_are_placed (ps := []) (least := 1) (by simp) (by decide) (by simp) List.Pairwise.nil fun S1 f1 => ifF rfl ?_)))
  refine (b.frm f1).rel ⟨Nat.zero_le _, eq_tup (n := 1) (m := 1) (sh_tup (n := 0) (fun _ h => by cases h)) (sh_tup (n := 0) (fun _ h => by cases h)) (by decide) (by decide) ?_⟩
  rw [eqv_nil]
  exact ifT rfl ⟨sz5 (show 2 ≤ 100000 by decide), k S1 f1⟩
theorem termD_sh {ps : List (Str × Int)} (h : ∀ p ∈ ps, Nm p.1) : Sh 2 (termD ps) := sh_tup fun x hx => by
  obtain ⟨p, hp, rfl⟩ := List.mem_map.mp hx
  exact sh_placed (h p hp)
theorem eqv_cons {x : D} {xs : List D} : PyData.eqv (toP (.tup (x :: xs))) (toP (.tup [])) = false := eqv_cons_nil
theorem sp_placed_non {least : Int} (h : R (.bl false) S) : Cal w_are_placed [.non, .int least] S R Rx := by
  refine .mk ?_
  rw [w_are_placed_eq]
  refine Cal.mk ?_
  rw [w_is_tuple_of_eq]
  exact ifF rfl (ifT rfl (ifT rfl h))
theorem rel_step {n : Nat} {rels : List (Str × Int)} {m u : D} (b : BookAt n (termD rels) m u S) (h0 : rels ≠ []) (hr : ∀ p ∈ rels, Nm p.1) (hk : R (.bl false) S) : fldAt ["Book"] n "relations" S fun d => ([] : List D).length ≤ sizeLine ∧ eqA d (.tup []) S R := by
  refine b.rel ⟨Nat.zero_le _, ?_⟩
  refine eq_tup (n := 2) (m := 1) (termD_sh hr) (sh_tup (n := 0) (fun _ h => by cases h)) (by decide) (by decide) ?_
  match rels, h0 with
  | p :: ps, _ =>
    show R (.bl (PyData.eqv (toP (.tup (placedD p :: ps.map placedD))) (toP (.tup [])))) S
    rw [eqv_cons_nil]
    exact hk
theorem sp_fault_mak {n : Nat} {rels : List (Str × Int)} {us : List D} (b : BookAt n (termD rels) .non (.tup us) S) (h0 : rels ≠ []) (hl : rels.length ≤ 1000) (rn : ∀ p ∈ rels, Nm p.1 ∧ 1 ≤ p.2) (ra : Asc rels) (k : ∀ S', Frm [] S S' → R (.tup [.str "makers", .int (-1)]) S') : Cal w_book_fault [.ref n] S R Rx := by
  refine .mk ?_
  rw [w_book_fault_eq]
  refine b.rul (ifF rfl (b.rel (sp_are_placed (least := 1) hl (by decide) rn ra fun S1 f1 => ifF rfl ?_)))
  refine rel_step (b.frm f1) h0 (fun p hp => (rn p hp).1) ?_
  exact ifF rfl ((b.frm f1).mak (sp_placed_non (ifT rfl ⟨sz5 (show 2 ≤ 100000 by decide), k S1 f1⟩)))
theorem lf_rules {E : DEnds} {n : Nat} {rels mks : List (Str × Int)} {u : D} {rest : List D} {r1 : Option D} {b0 : Option D} (hr : ∀ p ∈ rels, Nm p.1) (hm : ∀ p ∈ mks, Nm p.1) : ∀ (us : List RuT) (i : Nat) (r2 r3 : Option D) (S : Sto), BookAt n (termD rels) (termD mks) u S → (∀ x ∈ us, Ru rels mks x) →
    (∀ r2 r3 S', Frm [] S S' → forW noG (gTp 2 (gsCons (gNm 2) (gsCons (gNm 3) gsNil))) f1_book_fault E (enumD (i + us.length) rest) [some (.ref n), r1, r2, r3] S') →
    forW noG (gTp 2 (gsCons (gNm 2) (gsCons (gNm 3) gsNil))) f1_book_fault E (enumD i (us.map ruleD ++ rest)) [some (.ref n), r1, r2, r3] S
  | [], i, r2, r3, S, b, hu, k => k r2 r3 S .refl
  | x :: us, i, r2, r3, S, b, hu, k => by
    refine ⟨trivial, rfl, b.rel (b.mak (sp_is_rule hr hm (hu x (by simp)) fun S1 f1 => ifF rfl ?_))⟩
    refine lf_rules (b0 := b0) hr hm us (i + 1) _ _ S1 (b.frm f1) (fun y hy => hu y (by simp [hy])) fun r2 r3 S' f => ?_
    have e : i + 1 + us.length = i + (x :: us).length := by simp; omega
    rw [e]
    exact k r2 r3 S' (f1.trans f)
theorem fault_start {n : Nat} {rels mks : List (Str × Int)} {us : List RuT} {rest : List D} (h : KitOk rels mks us) (b : BookAt n (termD rels) (termD mks) (.tup (us.map ruleD ++ rest)) S)
    (k : ∀ r2 r3 S', Frm [] S S' → BookAt n (termD rels) (termD mks) (.tup (us.map ruleD ++ rest)) S' → forW noG (gTp 2 (gsCons (gNm 2) (gsCons (gNm 3) gsNil))) f1_book_fault { topEnds R Rx with nx := sRet (eC .non) (topEnds R Rx) } (enumD us.length rest) [some (.ref n), some (.int (-1)), r2, r3] S') : Cal w_book_fault [.ref n] S R Rx := by
  refine .mk ?_
  rw [w_book_fault_eq]
  refine b.rul (ifF rfl (b.rel (sp_are_placed (least := 1) h.rl (by decide) h.rn h.ra fun S1 f1 => ifF rfl ?_)))
  have b1 := b.frm f1
  refine rel_step b1 h.r0 (fun p hp => (h.rn p hp).1) ?_
  refine ifF rfl (b1.mak (sp_are_placed (least := 0) h.ml (by decide) h.mn h.ma fun S2 f2 => ifF rfl ?_))
  have b2 := b1.frm f2
  refine b2.rel (b2.mak (sp_shared_name h.rl h.dj fun S3 f3 => ifF rfl ?_))
  have b3 := b2.frm f3
  refine b3.rul ?_
  refine lf_rules (b0 := none) (fun p hp => (h.rn p hp).1) (fun p hp => (h.mn p hp).1) us 0 none none S3 b3 h.ru fun r2 r3 S' f => ?_
  rw [Nat.zero_add]
  exact k r2 r3 S' (f1.trans (f2.trans (f3.trans f))) (b3.frm f)
theorem sp_fault_ok {n : Nat} {rels mks : List (Str × Int)} {us : List RuT} (h : KitOk rels mks us) (b : BookAt n (termD rels) (termD mks) (rulesD us) S) (k : ∀ S', Frm [] S S' → R .non S') : Cal w_book_fault [.ref n] S R Rx := by
  have b' : BookAt n (termD rels) (termD mks) (.tup (us.map ruleD ++ [])) S := by rw [List.append_nil]; exact b
  exact fault_start h b' fun r2 r3 S' f _ => ⟨trivial, k S' f⟩
theorem sp_fault_rule {n : Nat} {rels mks : List (Str × Int)} {us : List RuT} (h : KitOk rels mks us) (b : BookAt n (termD rels) (termD mks) (.tup (us.map ruleD ++ [.non])) S) (k : ∀ S', Frm [] S S' → R (.tup [.str "rule", .int (us.length : Int)]) S') : Cal w_book_fault [.ref n] S R Rx := by
  refine fault_start h b fun r2 r3 S' f b' => ⟨trivial, rfl, b'.rel (b'.mak (sp_is_rule_non (ifT rfl ⟨sz5 (show 2 ≤ 100000 by decide), k S' f⟩)))⟩
/-! ### what need_book and need_priced do -/
def exD (w : Str) (a : Int) : DX := ⟨"InvalidBook", some [("at", .int a), ("word", .str w)]⟩
abbrev Outc := Option (Str × Int)
def endO (R : RD) (Rx : RX) (o : Outc) (S : Sto) : Prop := match o with
  | none => R .non S
  | some (w, a) => Rx (exD w a) S
def NB (v : D) (S : Sto) (o : Outc) : Prop := ∀ (R : RD) (Rx : RX), (∀ S', Frm [] S S' → endO R Rx o S') → Cal w_need_book [v] S R Rx
def NP (v : D) (S : Sto) (o : Outc) : Prop := ∀ (R : RD) (Rx : RX), (∀ S', Frm [] S S' → endO R Rx o S') → Cal w_need_priced [v] S R Rx
abbrev clsL : List Str := ["Book", "PricedBook"]
/-- a value that is no instance of c -/
inductive Other (c : Str) (S : Sto) : D → Prop
  | non : Other c S .non
  | bl (b : Bool) : Other c S (.bl b)
  | int (i : Int) : Other c S (.int i)
  | str (x : Str) : Other c S (.str x)
  | tup (xs : List D) : Other c S (.tup xs)
  | lst (n : Nat) (xs : List D) (h : S[n]? = some (.lst xs)) : Other c S (.ref n)
  | ins (n : Nat) (d : Str) (fs : List (Str × D)) (h : S[n]? = some (.ins d fs)) (hd : d ∈ clsL) (hc : d ≠ c) : Other c S (.ref n)
theorem nb_other {v : D} (o : Other "Book" S v) : NB v S (some ("form", -1)) := fun R Rx k => by
  refine .mk ?_
  rw [w_need_book_eq]
  cases o with
  | lst n xs hn => exact refAt.lst xs (.inl hn) (ifT rfl (k S .refl))
  | ins n d fs hn hd hc => exact refAt.ins d fs hn hd (ifT (b := !decide (d = "Book")) (by rw [decide_eq_false hc]; rfl) (k S .refl))
  | _ => exact ifT rfl (k S .refl)
section
variable {n : Nat}
theorem nb_step {r m u : D} {w : Str} {a : Int} (b : BookAt n r m u S) (hf : ∀ (R : RD) (Rx : RX), (∀ S', Frm [] S S' → R (.tup [.str w, .int a]) S') → Cal w_book_fault [.ref n] S R Rx) : NB (.ref n) S (some (w, a)) := fun R Rx k => by
  refine .mk ?_
  rw [w_need_book_eq]
  refine refAt.ins "Book" _ b.at_ (by simp) ?_
  exact ifF rfl (hf _ _ fun S1 f1 => ifT rfl (ix_at rfl (ix_at rfl (k S1 f1))))
theorem nb_ok {r m u : D} (b : BookAt n r m u S) (hf : ∀ (R : RD) (Rx : RX), (∀ S', Frm [] S S' → R .non S') → Cal w_book_fault [.ref n] S R Rx) : NB (.ref n) S none := fun R Rx k => by
  refine .mk ?_
  rw [w_need_book_eq]
  refine refAt.ins "Book" _ b.at_ (by simp) ?_
  exact ifF rfl (hf _ _ fun S1 f1 => ifF rfl (k S1 f1))
structure PricedAt (n : Nat) (b p : D) (S : Sto) : Prop where
  at_ : S[n]? = some (.ins "PricedBook" [("book", b), ("prices", p)])
theorem PricedAt.frm {b p : D} {S S' : Sto} (h : PricedAt n b p S) (f : Frm [] S S') : PricedAt n b p S' := ⟨f.get0 h.at_⟩
theorem PricedAt.book {b p : D} {k : D → Prop} (h : PricedAt n b p S) (hk : k b) : fldAt ["PricedBook"] n "book" S k := .mk _ _ _ h.at_ (by simp) rfl hk
theorem PricedAt.pri {b p : D} {k : D → Prop} (h : PricedAt n b p S) (hk : k p) : fldAt ["PricedBook"] n "prices" S k := .mk _ _ _ h.at_ (by simp) rfl hk
theorem np_other {v : D} (o : Other "PricedBook" S v) : NP v S (some ("form", -1)) := fun R Rx k => by
  refine .mk ?_
  rw [w_need_priced_eq]
  cases o with
  | lst n xs hn => exact refAt.lst xs (.inl hn) (ifT rfl (k S .refl))
  | ins n d fs hn hd hc => exact refAt.ins d fs hn hd (ifT (b := !decide (d = "PricedBook")) (by rw [decide_eq_false hc]; rfl) (k S .refl))
  | _ => exact ifT rfl (k S .refl)
/-- the book is none -/
theorem np_book {b p : D} {w : Str} {a : Int} (h : PricedAt n b p S) (hb : NB b S (some (w, a))) : NP (.ref n) S (some (w, a)) := fun R Rx k => by
  refine .mk ?_
  rw [w_need_priced_eq]
  refine refAt.ins "PricedBook" _ h.at_ (by simp) ?_
  exact ifF rfl (h.book (hb _ _ fun S1 f1 => k S1 f1))
/-- prices that are no tuple of so many -/
theorem np_prices {c : Nat} {r m p : D} {us : List D} (h : PricedAt n (.ref c) p S) (b : BookAt c r m (.tup us) S) (hb : NB (.ref c) S none) (hp : ∀ S' (R : RD) (Rx : RX), Frm [] S S' → R (.bl false) S' → Cal w_is_tuple [p, .int (us.length : Int)] S' R Rx) : NP (.ref n) S (some ("prices", -1)) := fun R Rx k => by
  refine .mk ?_
  rw [w_need_priced_eq]
  refine refAt.ins "PricedBook" _ h.at_ (by simp) ?_
  refine ifF rfl (h.book (hb _ _ fun S1 f1 => ?_))
  have h1 := h.frm f1
  have b1 := b.frm f1
  exact h1.pri (h1.book (b1.rul (hp S1 _ _ f1 (ifT rfl (k S1 f1)))))
theorem np_start {c : Nat} {r m : D} {us ps : List D} (h : PricedAt n (.ref c) (.tup ps) S) (b : BookAt c r m (.tup us) S) (hb : NB (.ref c) S none) (hl : ps.length = us.length) {o : Outc}
    (hf : ∀ S1, Frm [] S S1 → ∀ (R : RD) (Rx : RX), (∀ S', Frm [] S1 S' → R (.int (match o with
      | none => -1
      | some (_, a) => a)) S') → Cal w_first_wrong [.tup ps, .fn "is_price"] S1 R Rx) (ho : match o with
      | none => True
      | some (w, a) => w = "price" ∧ 0 ≤ a) : NP (.ref n) S o := fun R Rx k => by
  refine .mk ?_
  rw [w_need_priced_eq]
  refine refAt.ins "PricedBook" _ h.at_ (by simp) ?_
  refine ifF rfl (h.book (hb _ _ fun S1 f1 => ?_))
  have h1 := h.frm f1
  have b1 := b.frm f1
  refine h1.pri (h1.book (b1.rul ?_))
  have e : decide ((ps.length : Int) = (us.length : Int)) = true := decide_eq_true (by omega)
  refine sp_is_tuple_t ?_
  rw [e]
  refine ifF rfl (h1.pri (hf S1 f1 _ _ fun S2 f2 => ?_))
  cases o with
  | none => exact ifF rfl (k S2 (f1.trans f2))
  | some q =>
    obtain ⟨w, a⟩ := q
    obtain ⟨rfl, h0⟩ := ho
    refine ifT (b := decide (a ≥ 0)) (decide_eq_true h0) (k S2 (f1.trans f2))
/-! ### made, asked, told -/
theorem sp_Book_init {r m u : D} (hn : S[n]? = some (.ins "Book" [])) (k : R .non (S.set n (.ins "Book" [("relations", r), ("makers", m), ("rules", u)]))) : Cal w_Book_init [.ref n, r, m, u] S R Rx := by
  refine .mk ?_
  rw [w_Book_init_eq]
  have ln := lt_of_get hn
  refine putAt.mk "Book" [] hn (by simp) (by simp) ?_
  refine putAt.mk "Book" [("relations", r)] (List.getElem?_set_self ln) (by simp) (by simp) ?_
  rw [List.set_set]
  refine putAt.mk "Book" [("relations", r), ("makers", m)] (List.getElem?_set_self ln) (by simp) (by simp) ?_
  rw [List.set_set]
  exact k
theorem sp_Priced_init {b p : D} (hn : S[n]? = some (.ins "PricedBook" [])) (k : R .non (S.set n (.ins "PricedBook" [("book", b), ("prices", p)]))) : Cal w_PricedBook_init [.ref n, b, p] S R Rx := by
  refine .mk ?_
  rw [w_PricedBook_init_eq]
  have ln := lt_of_get hn
  refine putAt.mk "PricedBook" [] hn (by simp) (by simp) ?_
  refine putAt.mk "PricedBook" [("book", b)] (List.getElem?_set_self ln) (by simp) (by simp) ?_
  rw [List.set_set]
  exact k
end
/-- a new priced book -/
theorem mk_priced {b p : D} (k : ∀ S', Frm [] S S' → PricedAt S.length b p S' → R (.ref S.length) S') : Cal w_PricedBook_init [.ref S.length, b, p] (S ++ [.ins "PricedBook" []]) (fun d S2 => d = .non ∧ R (.ref S.length) S2) noX := by
  refine sp_Priced_init get_last ⟨rfl, k _ ?_ ⟨?_⟩⟩
  · exact (Frm.app _).setNew (Nat.le_refl _)
  · rw [List.getElem?_set_self (by simp)]
theorem mk_book {r m u : D} (k : ∀ S', Frm [] S S' → BookAt S.length r m u S' → R (.ref S.length) S') : Cal w_Book_init [.ref S.length, r, m, u] (S ++ [.ins "Book" []]) (fun d S2 => d = .non ∧ R (.ref S.length) S2) noX := by
  refine sp_Book_init get_last ⟨rfl, k _ ?_ ⟨?_⟩⟩
  · exact (Frm.app _).setNew (Nat.le_refl _)
  · rw [List.getElem?_set_self (by simp)]
theorem sp_all_alike {c : Nat} {r m x : D} {us : List D} (b : BookAt c r m (.tup us) S) (hl : us.length ≤ 1000) (k : ∀ n S', Frm [] S S' → PricedAt n (.ref c) (.tup (List.replicate us.length x)) S' → R (.ref n) S') : Cal w_all_alike [.ref c, x] S R Rx := by
  refine .mk ?_
  rw [w_all_alike_eq]
  refine ⟨sz5 (show 1 ≤ 100000 by decide), b.rul ⟨⟨by omega, by omega, by simp⟩, ?_⟩⟩
  have e : (List.replicate (us.length : Int).toNat [x]).flatten = List.replicate us.length x := by
    rw [Int.toNat_natCast]
    generalize us.length = j
    induction j with
    | zero => rfl
    | succ j ih => rw [List.replicate_succ, List.flatten_cons, ih]; rfl
  rw [e]
  exact mk_priced fun S' f h => k _ S' f h
theorem cut_lo {xs : List D} {j : Nat} : DL.cutD xs none (some (j : Int)) = xs.take j := by
  unfold DL.cutD
  rw [HT.sIx_none, HT.sIx_nat, List.drop_zero, Nat.sub_zero]
  rw [List.take_eq_take_iff]
  omega
theorem cut_hi {xs : List D} {j : Nat} : DL.cutD xs (some (j : Int)) none = xs.drop j := by
  unfold DL.cutD
  rw [HT.sIx_none, HT.sIx_nat]
  by_cases h : j ≤ xs.length
  · rw [Nat.min_eq_left h, List.take_of_length_le (by simp)]
  · rw [Nat.min_eq_right (by omega), List.drop_of_length_le (Nat.le_refl _), List.drop_of_length_le (by omega)]
    simp
theorem sp_repriced {q j : Nat} {b x : D} {ps : List D} (h : PricedAt q b (.tup ps) S) (hl : ps.length ≤ 1000) (k : ∀ n S', Frm [] S S' → PricedAt n b (.tup (ps.take j ++ [x] ++ ps.drop (j + 1))) S' → R (.ref n) S') : Cal w_repriced [.ref q, .int (j : Int), x] S R Rx := by
  refine .mk ?_
  rw [w_repriced_eq]
  refine h.book (h.pri ?_)
  refine ⟨sz5 (show 1 ≤ 100000 by decide), ?_⟩
  have e1 := cut_lo (xs := ps) (j := j)
  have e2 := cut_hi (xs := ps) (j := j + 1)
  rw [show ((j + 1 : Nat) : Int) = (j : Int) + 1 by omega] at e2
  show (DL.cutD ps none (some (j : Int))).length + [x].length ≤ sizeLine ∧ _
  rw [e1]
  refine ⟨sz5 (by simp; omega), h.pri ?_⟩
  show (ps.take j ++ [x]).length + (DL.cutD ps (some ((j : Int) + 1)) none).length ≤ sizeLine ∧ _
  rw [e2]
  refine ⟨sz5 (by simp; omega), ?_⟩
  exact mk_priced fun S' f h => k _ S' f h
/-- two books with the same parts -/
theorem sp_book_eq {c c' : Nat} {x y : Nat} {r m u : D} (b : BookAt c r m u S) (b' : BookAt c' r m u S) (hr : Sh x r) (hm : Sh x m) (hu : Sh x u) (hx : x ≤ 64) (tr : ∃ xs, r = .tup xs) (tm : ∃ xs, m = .tup xs) (tu : ∃ xs, u = .tup xs) (k : R (.bl true) S) : Cal w_Book___eq__ [.ref c, .ref c'] S R Rx := by
  obtain ⟨xs, rfl⟩ := tr
  obtain ⟨ys, rfl⟩ := tm
  obtain ⟨zs, rfl⟩ := tu
  refine .mk ?_
  rw [w_Book___eq___eq]
  refine refAt.ins "Book" _ b'.at_ (by simp) ?_
  refine ifF rfl ?_
  refine b.rel (b'.rel (eq_tup hr hr hx hx ?_))
  rw [hr.refl]
  refine ifT rfl (b.mak (b'.mak (eq_tup hm hm hx hx ?_)))
  rw [hm.refl]
  refine ifT rfl (b.rul (b'.rul (eq_tup hu hu hx hx ?_)))
  rw [hu.refl]
  exact k
/-- a priced book beside one of a like book -/
theorem sp_priced_eq {q q' c c' x : Nat} {ps ps' : List D} (h : PricedAt q (.ref c) (.tup ps) S) (h' : PricedAt q' (.ref c') (.tup ps') S) {r m u : D} (b : BookAt c r m u S) (b' : BookAt c' r m u S) (hr : Sh x r) (hm : Sh x m) (hu : Sh x u) (hx : x ≤ 64) (tr : ∃ xs, r = .tup xs) (tm : ∃ xs, m = .tup xs) (tu : ∃ xs, u = .tup xs)
    (hp : Sh x (.tup ps)) (hp' : Sh x (.tup ps')) (k : R (.bl (PyData.eqv (toP (.tup ps)) (toP (.tup ps')))) S) : Cal w_PricedBook___eq__ [.ref q, .ref q'] S R Rx := by
  refine .mk ?_
  rw [w_PricedBook___eq___eq]
  refine refAt.ins "PricedBook" _ h'.at_ (by simp) ?_
  refine ifT rfl ?_
  refine h.book (h'.book (ownAt.mk c _ rfl b.at_ (refAt.ins "Book" _ b'.at_ (by simp) trivial) ?_))
  refine sp_book_eq b b' hr hm hu hx tr tm tu (y := 0) (ifT rfl ?_)
  exact h.pri (h'.pri (eq_tup hp hp' hx hx k))
theorem sp_priced_ne {q : Nat} {v : D} (o : Other "PricedBook" S v) (k : R (.bl false) S) : Cal w_PricedBook___eq__ [.ref q, v] S R Rx := by
  refine .mk ?_
  rw [w_PricedBook___eq___eq]
  cases o with
  | lst n xs hn => exact refAt.lst xs (.inl hn) (ifF rfl k)
  | ins n d fs hn hd hc =>
    refine refAt.ins d fs hn hd ?_
    have e : decide (d = ("PricedBook" : Str)) = false := decide_eq_false hc
    show ift (decide (d = ("PricedBook" : Str))) _ (R (.bl (decide (d = ("PricedBook" : Str)))) S)
    rw [e]
    exact ifF rfl k
  | _ => exact ifF rfl k
/-! ### said -/
def saidD : Outc → D
  | none => .tup [.str "told", .non]
  | some (w, a) => .tup [.str "refused", .str w, .int a]
theorem sp_said {v : D} {o : Outc} {b : Bool} (h : NP v S o) (k : ∀ S', Frm [] S S' → R (saidD o) S') : Cal w_law_said [v, .bl b] S R Rx := by
  refine .mk ?_
  rw [w_law_said_eq]
  have go : ∀ {R' : RD} {Rx' : RX}, (∀ S', Frm [] S S' → endO R' Rx' o S') → Cal w_need_priced [v] S R' Rx' := fun z => h _ _ z
  have fin : ∀ S', Frm [] S S' → endO (fun d S1 => ([.str "told", d] : List D).length ≤ sizeLine ∧ R (.tup [.str "told", d]) S1)
      (fun x S1 => x.cls ∈ (["InvalidBook"] : List Str) ∧ hndW h1_law_said x [some v, some (.bl b), none] S1 R (Rx x S1)) o S' := fun S' f => by
    cases o with
    | none => exact ⟨sz5 (show 2 ≤ 100000 by decide), k S' f⟩
    | some q =>
      obtain ⟨w, a⟩ := q
      refine ⟨by simp [exD], ifT rfl ⟨?_, ?_⟩⟩
      · show 2 < 3
        decide
      · exact ⟨rfl, _, _, rfl, rfl, rfl, _, _, rfl, rfl, sz5 (show 3 ≤ 100000 by decide), k S' f⟩
  cases b with
  | true => exact ifT rfl (go fin)
  | false => exact ifF rfl (go fin)
theorem sp_parts_of {c : Nat} {r m u : D} (b : BookAt c r m u S) (k : R (.tup [r, m, u]) S) : Cal w_law_parts_of [.ref c] S R Rx := by
  refine .mk ?_
  rw [w_law_parts_of_eq]
  exact b.rel (b.mak (b.rul ⟨sz5 (show 3 ≤ 100000 by decide), k⟩))
theorem sp_parts_told {q c : Nat} {r m u p : D} (h : PricedAt q (.ref c) p S) (b : BookAt c r m u S) (k : R (.tup [r, m, u, p]) S) : Cal w_law_parts_told [.ref q] S R Rx := by
  refine .mk ?_
  rw [w_law_parts_told_eq]
  exact h.book (sp_parts_of b (h.pri ⟨sz5 (show 1 ≤ 100000 by decide), sz5 (show 4 ≤ 100000 by decide), k⟩))
/-! ### draws of this law -/
theorem Deal.set {n m i : Nat} {o : Ob} (d : Deal n m S) (h1 : i ≠ n) (h2 : i ≠ m) : Deal n m (S.set i o) := by
  obtain ⟨ne, cs, mix, g1, g2, g3⟩ := d
  exact ⟨ne, cs, mix, by rw [List.getElem?_set_ne h1]; exact g1, by rw [List.getElem?_set_ne h2]; exact g2, g3⟩
theorem popAt_nat {xs : List D} {j : Nat} {k : D → Nat → Prop} (h : j < xs.length) (hl : xs.length ≤ 100000) (hk : k xs[j] j) : popAtK xs (j : Int) k := by
  unfold popAtK
  rw [ixN_nat h]
  show (match xs[j]? with
    | some d => (-(2 ^ 63) ≤ (j : Int) ∧ (j : Int) < 2 ^ 63) ∧ k d j
    | none => False)
  rw [List.getElem?_eq_getElem h]
  exact ⟨⟨by omega, by omega⟩, hk⟩
theorem erase_perm {α : Type} : ∀ (l : List α) (i : Nat) (h : i < l.length), (l[i] :: l.eraseIdx i).Perm l
  | [], i, h => absurd h (by simp)
  | x :: l, 0, h => List.Perm.refl _
  | x :: l, i + 1, h => (List.Perm.swap x (l[i]'(by simpa using h)) (l.eraseIdx i)).trans ((erase_perm l i (by simpa using h)).cons x)
theorem sp_mixed {n m q : Nat} {xs : List D} (d : Deal n m S) (hq : S[q]? = some (.lst xs)) (hl : xs.length ≤ 1000) (k : ∀ ys b S', ys.Perm xs → Frm [n, m] S S' → Deal n m S' → S'[b]? = some (.lst ys) → S.length ≤ b → R (.ref b) S') : Cal w_law_mixed [.ref n, .ref q] S R Rx := by
  obtain ⟨hn, hm⟩ := d.lt
  refine .mk ?_
  rw [w_law_mixed_eq]
  refine lst_at hq ?_
  refine ⟨Nat.zero_le _, ?_⟩
  have hq1 : (S ++ [Ob.lst xs] ++ [Ob.lst []])[q]? = some (.lst xs) := by rw [List.append_assoc]; exact (Frm.app (W := []) _).get0 hq
  refine lst_at hq1 ⟨⟨by omega, by omega⟩, ?_⟩
  have lb : (S ++ [Ob.lst xs]).length = S.length + 1 := by simp
  rw [Int.toNat_natCast, lb]
  have ga : (S ++ [Ob.lst xs] ++ [Ob.lst []])[S.length]? = some (.lst xs) := (Frm.app (W := []) _).get0 get_last
  have gb : (S ++ [Ob.lst xs] ++ [Ob.lst []])[S.length + 1]? = some (.lst []) := by rw [← lb]; exact get_last
  refine for_ind (fun j ρ S' => ∃ r left found, ρ = [some (.ref n), some (.ref q), r, some (.ref S.length), some (.ref (S.length + 1))] ∧ S'[S.length]? = some (.lst left) ∧ S'[S.length + 1]? = some (.lst found) ∧ (found ++ left).Perm xs ∧ found.length = j ∧ Deal n m S' ∧ Frm [n, m] S S') _
    (fun _ _ _ _ => trivial) ?_ ⟨none, xs, [], rfl, ga, gb, List.Perm.refl _, rfl, d.frm0 (by rw [List.append_assoc]; exact .app _), by rw [List.append_assoc]; exact .app _⟩ ?_
  · rintro j x ρ S' E' hx ⟨r, left, found, rfl, ha, hb, hp, hj, d', f⟩ e1 e2 e3 kk _
    obtain ⟨hj', rfl⟩ := getElem_range hx
    have hlen : found.length + left.length = xs.length := by rw [← List.length_append]; exact hp.length_eq
    refine ⟨mlst_at hb trivial, ?_⟩
    refine ⟨mlst_at ha trivial, lst_at ha (sp_any d' (by omega) (lt8 (by omega)) fun i S2 i0 i1 f2 d2 => ?_)⟩
    obtain ⟨t, rfl⟩ : ∃ t : Nat, i = (t : Int) := ⟨i.toNat, by omega⟩
    have ht : t < left.length := by omega
    have ha2 := f2.get ha (by simp; omega)
    have hb2 := f2.get hb (by simp; omega)
    have la := lt_of_get ha2
    refine mlst_at ha2 (popAt_nat ht (by omega) ?_)
    have hb3 : (S2.set S.length (.lst (left.eraseIdx t)))[S.length + 1]? = some (.lst found) := by rw [List.getElem?_set_ne (by omega)]; exact hb2
    have lb3 := lt_of_get hb3
    have hs : 100000 < sizeLine := by decide
    refine mlst_at hb3 ⟨by omega, ?_⟩
    refine kk _ _ ⟨_, left.eraseIdx t, found ++ [left[t]], rfl, by rw [List.getElem?_set_ne (by omega), List.getElem?_set_self la], by rw [List.getElem?_set_self lb3], ?_, by simp [hj], (d2.set (by omega) (by omega)).set (by omega) (by omega), ((f.trans f2).setNew (Nat.le_refl _)).setNew (by omega)⟩
    rw [List.append_assoc]
    refine List.Perm.trans (List.Perm.append_left _ ?_) hp
    exact erase_perm left t ht
  · rintro ρ S' ⟨r, left, found, rfl, ha, hb, hp, hj, d', f⟩
    rw [range_len] at hj
    have hlen : found.length + left.length = xs.length := by rw [← List.length_append]; exact hp.length_eq
    have e : left = [] := List.eq_nil_of_length_eq_zero (by omega)
    subst e
    rw [List.append_nil] at hp
    exact k found _ S' hp f d' hb (by omega)
/-! ### names -/
structure NameAt (i : Nat) (x : Str) : Prop where
  hd : ∃ r : List Nat, x.cps.toList = (97 + i) :: r ∧ r.length ≤ 7 ∧ ∀ c ∈ r, 109 ≤ c ∧ c ≤ 122
theorem NameAt.nm {i : Nat} {x : Str} (h : NameAt i x) (hi : i < 12) : Nm x := by
  obtain ⟨r, e, hl, hr⟩ := h.hd
  have e2 : x.cps.size = r.length + 1 := by rw [← Array.length_toList, e]; rfl
  refine ⟨by omega, by omega, fun c hc => ?_⟩
  rw [e] at hc
  rcases List.mem_cons.mp hc with rfl | hc
  · omega
  · have := hr c hc
    omega
theorem glue_fold : ∀ (l : List Str) (a : Array Nat), (l.foldl (fun acc p => acc ++ ("" : Str).cps ++ p.cps) a).toList = a.toList ++ (l.map fun p => p.cps.toList).flatten
  | [], a => by simp
  | p :: l, a => by
    rw [List.foldl_cons, glue_fold l, Array.toList_append, Array.toList_append, List.map_cons, List.flatten_cons, List.append_assoc, List.append_assoc]
    rfl
theorem flat_signs : ∀ cs : List Nat, ((cs.map fun c => (⟨#[c]⟩ : Str)).map fun p => p.cps.toList).flatten = cs
  | [] => rfl
  | c :: r => by
    rw [List.map_cons, List.map_cons, List.flatten_cons, flat_signs r]
    rfl
theorem join_signs : ∀ cs : List Nat, (Txt.join ("" : Str) (cs.map fun c => (⟨#[c]⟩ : Str))).cps.toList = cs
  | [] => rfl
  | c :: r => by
    show ((r.map fun c => (⟨#[c]⟩ : Str)).foldl (fun acc p => acc ++ ("" : Str).cps ++ p.cps) #[c]).toList = c :: r
    rw [glue_fold, flat_signs]
    rfl
theorem letter_at : ∀ i, i < 12 → ("abcdefghijkl" : Str).cps.toList[i]? = some (97 + i) := by decide +kernel
theorem sum_ones : ∀ cs : List Nat, ((cs.map fun c => (⟨#[c]⟩ : Str)).map (·.length)).sum = cs.length
  | [] => rfl
  | c :: r => by
    rw [List.map_cons, List.map_cons, List.sum_cons, sum_ones r, List.length_cons, Nat.add_comm]
    rfl
theorem sp_name {n m i : Nat} (d : Deal n m S) (hi : i < 12) (k : ∀ x S', NameAt i x → Frm [n, m] S S' → Deal n m S' → R (.str x) S') : Cal w_law_name [.ref n, .int (i : Int)] S R Rx := by
  refine .mk ?_
  rw [w_law_name_eq]
  refine ⟨by decide, ?_⟩
  show (match atI ("abcdefghijkl" : Str).cps.toList (i : Int) with
    | some c => _
    | none => False)
  rw [atI_nat (letter_at i hi)]
  refine sp_any d (by decide) (lt8 (by decide)) fun r S1 r0 r1 f1 d1 => ⟨⟨by omega, by omega⟩, ?_⟩
  refine lc_draw (fun d => ∃ c : Nat, d = .str ⟨#[c]⟩ ∧ 109 ≤ c ∧ c ≤ 122) d1 (by rw [range_len]; omega) (fun x _ S R d k => ?_) fun ds S2 hl hp f2 d2 hq => ?_
  · refine ⟨by decide, ?_⟩
    have f0 : Frm [] S (S ++ [Ob.lst (("mnopqrstuvwxyz" : Str).cps.toList.map fun c => D.str ⟨#[c]⟩)]) := .app _
    have hn := d.lt
    refine sp_of (d.frm0 f0) get_last (by simp; omega) (by decide) (by decide) fun x S' hx f d' => ?_
    obtain ⟨c, hc, rfl⟩ := List.mem_map.mp hx
    have hall : ∀ c ∈ ("mnopqrstuvwxyz" : Str).cps.toList, 109 ≤ c ∧ c ≤ 122 := by decide +kernel
    exact k _ S' ⟨c, rfl, hall c hc⟩ (f0.nil.trans f) d'
  · obtain ⟨cs, rfl, hcs⟩ := choose_map hp
    rw [range_len, List.length_map] at hl
    refine lst_at hq ⟨cs.map fun c => (⟨#[c]⟩ : Str), by rw [List.map_map]; rfl, ?_, ?_⟩
    · rw [sum_ones, List.length_map]
      show cs.length + cs.length * 0 ≤ 16777216
      omega
    · have ej := join_signs cs
      have es : (Txt.join ("" : Str) (cs.map fun c => (⟨#[c]⟩ : Str))).length = cs.length := by
        show (Txt.join ("" : Str) (cs.map fun c => (⟨#[c]⟩ : Str))).cps.size = cs.length
        rw [← Array.length_toList, ej]
      refine ⟨?_, k _ S2 ⟨cs, ?_, by omega, hcs⟩ (f1.trans f2) d2⟩
      · show 1 + (Txt.join ("" : Str) (cs.map fun c => (⟨#[c]⟩ : Str))).length ≤ sizeLine
        rw [es]
        exact sz5 (by omega)
      · rw [PySem.Str.cps_append, Array.toList_append, ej]
        rfl
/-! ### sorted relations and makers -/
theorem str_ext {x y : Str} (h : x.cps.toList = y.cps.toList) : x = y := by
  cases x with | mk a =>
  cases y with | mk b =>
  have : a = b := Array.toList_inj.mp h
  rw [this]
theorem le_lt {p q : Str × Int} (h : leP (placedD p) (placedD q) = true) (hne : p.1 ≠ q.1) : p.1.cps.toList < q.1.cps.toList := by
  have e : leP (placedD p) (placedD q) = !(PyProof.Rows.lexLt PyProof.Rows.itemOrd (PySem.W.keyToks (toP (placedD q))) (PySem.W.keyToks (toP (placedD p)))) := rfl
  rw [e] at h
  unfold placedD at h
  rw [toP_tup, toP_tup, toPs_cons, toPs_cons, toPs_cons, toPs_cons, toPs_nil, toP_str, toP_str, toP_int, toP_int] at h
  simp only [PySem.W.keyToks, PySem.W.keyToksAll, List.cons_append, List.nil_append, PyProof.Rows.lex_cons] at h
  have hn : p.1.cps.toList ≠ q.1.cps.toList := fun z => hne (str_ext z)
  by_cases hlt : q.1.cps.toList < p.1.cps.toList
  · exfalso
    have e1 : PyProof.Rows.itemOrd.blt (.inl 1) (.inl 1) = false := rfl
    have e2 : PyProof.Rows.itemOrd.blt (.inr q.1.cps.toList) (.inr p.1.cps.toList) = true := decide_eq_true hlt
    rw [PyProof.Rows.lex_cons, PyProof.Rows.lex_cons, e1, e2] at h
    simp at h
  · rcases List.le_iff_lt_or_eq.mp (List.not_lt.mp hlt) with z | z
    · exact z
    · exact absurd z hn
theorem sorted_placed {ps : List (Str × Int)} (hn : ps.Pairwise fun p q => p.1 ≠ q.1) : ∃ qs, (ps.map placedD).mergeSort leP = qs.map placedD ∧ qs.Perm ps ∧ Asc qs := by
  refine ⟨ps.mergeSort fun p q => leP (placedD p) (placedD q), (PySem.W.sort_maps placedD fun _ _ _ _ => rfl).symm, List.mergeSort_perm _ _, ?_⟩
  have h1 : (ps.mergeSort fun p q => leP (placedD p) (placedD q)).Pairwise fun p q => leP (placedD p) (placedD q) = true := by
    have t := PySem.W.sortLe_total (PyProof.Rows.listOrd PyProof.Rows.itemOrd) false fun d : D => PySem.W.keyToks (toP d)
    exact PySem.W.sort_pairwise (le := fun p q => leP (placedD p) (placedD q)) ⟨fun a b c => t.trans _ _ _, fun a b => t.total _ _⟩ ps
  have h2 : (ps.mergeSort fun p q => leP (placedD p) (placedD q)).Pairwise fun p q => p.1 ≠ q.1 := ((List.mergeSort_perm _ _).pairwise_iff fun h => Ne.symm h).mpr hn
  exact (h1.and h2).imp fun ⟨a, b⟩ => le_lt a b
theorem sortOk_placed {ps : List (Str × Int)} (hl : ps.length ≤ 1000) : SortOk (ps.map placedD) := by
  have tp : ∀ d ∈ (ps.map placedD).map toP, ∃ x i, d = .tuple [.str x, .int i] := fun d hd => by
    rw [List.map_map] at hd
    obtain ⟨p, _, rfl⟩ := List.mem_map.mp hd
    refine ⟨p.1, p.2, ?_⟩
    show toP (.tup [.str p.1, .int p.2]) = _
    rw [toP_tup, toPs_cons, toPs_cons, toPs_nil, toP_str, toP_int]
  refine ⟨pls_all fun x hx => ?_, fun d hd d' hd' => ?_, .inl fun d hd => ?_, fun x hx => ?_, ?_⟩
  · obtain ⟨p, _, rfl⟩ := List.mem_map.mp hx
    exact pl_tup.mpr (pls_cons.mpr ⟨pl_str, pls_cons.mpr ⟨pl_int, pls_nil⟩⟩)
  · obtain ⟨x, i, rfl⟩ := tp d hd
    obtain ⟨y, j, rfl⟩ := tp d' hd'
    simp [PySem.W.alike, PySem.W.alikeAll]
  · obtain ⟨x, i, rfl⟩ := tp d hd
    exact ⟨_, _, rfl⟩
  · obtain ⟨p, _, rfl⟩ := List.mem_map.mp hx
    have e : toP (placedD p) = .tuple [.str p.1, .int p.2] := by
      show toP (.tup [.str p.1, .int p.2]) = _
      rw [toP_tup, toPs_cons, toPs_cons, toPs_nil, toP_str, toP_int]
    rw [e]
    simp [PyData.depth, PyData.depthAll]
  · rw [List.length_map]
    exact sz hl
/-! ### terms drawn -/
theorem walk_snoc {p : Str × Int} : ∀ (t : List (Str × Int)) (a d : Nat), walkT a t = some (d + 1) → walkT a (t ++ [p]) = some (d + p.2.toNat)
  | [], a, d, h => by
    have e : a = d + 1 := by simpa [walkT] using h
    subst e
    simp [walkT]
  | q :: t, 0, d, h => by simp [walkT] at h
  | q :: t, a + 1, d, h => by
    rw [List.cons_append]
    exact walk_snoc t (a + q.2.toNat) d h
/-- a leaf -/
structure Lf (p : Str × Int) : Prop where
  nm : Nm p.1
  v : p.2 = -1
theorem lc_room {n q : Nat} {a c d e f g h7 : Option D} {room : Int} {xs0 : List D} {Rq : Sto → Prop} (hne : q ≠ n) : ∀ (ps acc : List (Str × Int)) (S : Sto), acc.length + ps.length ≤ 1000 → S[q]? = some (.lst xs0) → S[n]? = some (.lst (acc.map placedD)) →
    (∀ S', Frm [n] S S' → S'[n]? = some (.lst ((acc ++ ps.filter fun p => decide (p.2 ≤ room)).map placedD)) → Rq S') →
    lcW n (fun S => S[q]? = some (.lst xs0)) (gNm 8) q1_law_drawn_term v1_law_drawn_term [a, c, d, e, f, g, some (.int room), h7, none] Rq (ps.map placedD) S
  | [], acc, S, hl, hq, hn, k => ⟨hq, k S .refl (by simpa using hn)⟩
  | p :: ps, acc, S, hl, hq, hn, k => by
    have ln := lt_of_get hn
    simp only [List.length_cons] at hl
    refine ⟨hq, ix_at rfl ?_⟩
    refine ifB (b := decide (p.2 ≤ room)) (fun h => ?_) fun h => ?_
    · refine mlst_at hn ⟨by rw [List.length_map]; exact small1000 (by omega), ?_⟩
      refine lc_room hne ps (acc ++ [p]) _ (by simp; omega) (by rw [List.getElem?_set_ne (Ne.symm hne)]; exact hq) (by rw [List.getElem?_set_self ln, List.map_append]; rfl) fun S' f' g' => k S' ((Frm.set (by simp)).trans f') ?_
      rw [g', List.append_assoc, List.filter_cons, if_pos h]
      rfl
    · refine lc_room hne ps acc S (by omega) hq hn fun S' f' g' => k S' f' ?_
      rw [g', List.filter_cons, if_neg (by simp [h])]
theorem sp_drawn_term {n m qm ql M : Nat} {mks lvs : List (Str × Int)} (d : Deal n m S) (hqm : S[qm]? = some (.lst (mks.map placedD))) (hql : S[ql]? = some (.lst (lvs.map placedD))) (hm1 : qm ∉ [n, m]) (hl1 : ql ∉ [n, m]) (hmk : ∀ p ∈ mks, Nm p.1 ∧ 0 ≤ p.2) (hml : mks.length ≤ 1000)
    (hlv : ∀ p ∈ lvs, Lf p) (l0 : 0 < lvs.length) (l1 : lvs.length ≤ 1000) (hM : 1 ≤ M) (hM2 : M ≤ 5) (k : ∀ t S', Tm mks t → t.length ≤ 5 → Frm [n, m] S S' → Deal n m S' → R (termD t) S') : Cal w_law_drawn_term [.ref n, .ref qm, .ref ql, .int (M : Int)] S R Rx := by
  refine .mk ?_
  rw [w_law_drawn_term_eq]
  refine ⟨Nat.zero_le _, sz5 (show 2 ≤ 100000 by decide), rfl, ?_⟩
  refine ⟨M + 1, while_ind (k := M) (fun j ρ S' => ∃ (t : List (Str × Int)) (due : Nat) (r6 r7 r8 : Option D), ρ = [some (.ref n), some (.ref qm), some (.ref ql), some (.int (M : Int)), some (termD t), some (.int (due : Int)), r6, r7, r8] ∧ walkT 1 t = some due ∧ t.length + due ≤ M ∧ j = M - t.length ∧
      (∀ p ∈ t, Nm p.1 ∧ -1 ≤ p.2) ∧ (∀ p ∈ t, p.2 ≠ -1 → p ∈ mks) ∧ Frm [n, m] S S' ∧ Deal n m S') ?_ ⟨[], 1, none, none, none, rfl, rfl, by simpa using hM, rfl, by simp, by simp, .refl, d⟩⟩
  rintro j ρ S1 A B E' ⟨t, due, r6, r7, r8, rfl, hw, hb, rfl, h1, h2, f1, d1⟩ _ _ _ kk _
  refine ifB (b := decide ((due : Int) > 0)) (fun hc => ?_) fun hc => ?_
  · obtain ⟨du, rfl⟩ : ∃ du, due = du + 1 := ⟨due - 1, by have := of_decide_eq_true hc; omega⟩
    have hqm1 := f1.get hqm hm1
    refine iter_at hqm1 ?_
    have hlt := lt_of_get hqm1
    have g0 : (S1 ++ [Ob.lst []])[qm]? = some (.lst (mks.map placedD)) := (Frm.app (W := []) _).get0 hqm1
    have elen : ((t.map placedD).length : Int) = (t.length : Int) := by rw [List.length_map]
    show lcW S1.length _ _ _ _ [_, _, _, _, _, _, some (.int ((M : Int) - ((t.map placedD).length : Int) - ((du + 1 : Nat) : Int))), _, _] _ _ _
    rw [elen]
    refine lc_room (by omega) mks [] _ (by simpa using hml) g0 get_last fun S2 f2 hs => ?_
    rw [List.nil_append] at hs
    generalize hroom : (M : Int) - (t.length : Int) - ((du + 1 : Nat) : Int) = room at hs
    have F2 : Frm [] S1 S2 := by
      refine ⟨?_, fun i hi _ => ?_⟩
      · have := f2.len
        simp at this
        omega
      · rw [f2.at_ i (by simp; omega) (by simp; omega), List.getElem?_append_left hi]
    have d2 := d1.frm0 F2
    have hn1 := d1.lt
    -- behind the sign
    have fin : ∀ (p : Str × Int) (S3 : Sto) (r6 r7 : Option D), Nm p.1 → -1 ≤ p.2 → (p.2 ≠ -1 → p ∈ mks) → p.2 ≤ room ∨ p.2 = -1 → Frm [n, m] S S3 → Deal n m S3 →
        (sPar 4 5 (aCons (e2 addD (eVar 4) (eTup (aCons (eVar 8) aNil))) (aCons (e2 addD (e2 subD (eVar 5) (eC (.int 1))) (eB maxD (aCons (e2 ixD (eVar 8) (eC (.int 1))) (aCons (eC (.int 0)) aNil)))) aNil))) E'
          [some (.ref n), some (.ref qm), some (.ref ql), some (.int (M : Int)), some (termD t), some (.int ((du + 1 : Nat) : Int)), r6, r7, some (placedD p)] S3 := by
      intro p S3 r6 r7 p1 p2 p3 p4 f3 d3
      have ht : t.length ≤ 5 := by omega
      refine ⟨sz5 (show 1 ≤ 100000 by decide), ⟨sz5 (by rw [List.length_map]; simp; omega), ix_at rfl ?_⟩⟩
      have ez : ((du + 1 : Nat) : Int) - 1 + (if (0 : Int) > p.2 then 0 else p.2) = ((du + p.2.toNat : Nat) : Int) := by
        split <;> omega
      show E'.nx [_, _, _, _, some (.tup (t.map placedD ++ [placedD p])), some (.int (((du + 1 : Nat) : Int) - 1 + (if (0 : Int) > p.2 then 0 else p.2))), _, _, _] S3
      rw [ez]
      refine kk (M - (t ++ [p]).length) _ S3 (by simp; omega) ⟨t ++ [p], du + p.2.toNat, r6, r7, some (placedD p), ?_, walk_snoc t 1 du hw, ?_, rfl, ?_, ?_, f3, d3⟩
      · show _ = [_, _, _, _, some (D.tup ((t ++ [p]).map placedD)), _, _, _, _]
        rw [List.map_append]
        rfl
      · rw [List.length_append]
        simp
        rcases p4 with z | z
        · omega
        · rw [z]; simp; omega
      · intro x hx
        rcases List.mem_append.mp hx with hx | hx
        · exact h1 x hx
        · rw [List.mem_singleton.mp hx]; exact ⟨p1, p2⟩
      · intro x hx
        rcases List.mem_append.mp hx with hx | hx
        · exact h2 x hx
        · rw [List.mem_singleton.mp hx]; exact p3
    have leaf : ∀ (S3 : Sto) (R3 : RD) (Rx3 : RX), Frm [n, m] S S3 → Deal n m S3 → (∀ p S4, Nm p.1 → p.2 = -1 → Frm [n, m] S S4 → Deal n m S4 → R3 (placedD p) S4) → Cal w_law_of [.ref n, .ref ql] S3 R3 Rx3 := by
      intro S3 R3 Rx3 f3 d3 kz
      refine sp_of d3 (f3.get hql hl1) hl1 (by simpa using l0) (by simpa using l1) fun x S4 hx f4 d4 => ?_
      obtain ⟨p, hp, rfl⟩ := List.mem_map.mp hx
      exact kz p S4 (hlv p hp).nm (hlv p hp).v (f3.trans f4) d4
    have Fs : Frm [n, m] S S2 := f1.trans F2.nil
    refine lst_at hs ?_
    refine ifB (fun hz => ?_) fun hz => ?_
    · refine sp_any d2 (by decide) (lt8 (by decide)) fun i S3 i0 i1 f3 d3 => ?_
      have hs3 := f3.get hs (by simp; omega)
      refine ifB (fun hi => ?_) fun hi => ?_
      · have hz' := of_decide_eq_true hz
        refine sp_of d3 hs3 (by simp; omega) (by simp at hz' ⊢; omega) (by have := List.length_filter_le (fun p : Str × Int => decide (p.2 ≤ room)) mks; simp; omega) fun x S4 hx f4 d4 => ?_
        obtain ⟨p, hp, rfl⟩ := List.mem_map.mp hx
        obtain ⟨hp1, hp2⟩ := List.mem_filter.mp hp
        have hm' := hmk p hp1
        exact fin p S4 _ _ hm'.1 (by have := hm'.2; omega) (fun _ => hp1) (.inl (of_decide_eq_true hp2)) ((Fs.trans f3).trans f4) d4
      · exact leaf S3 _ _ (Fs.trans f3) d3 fun p S4 p1 p2 f4 d4 => fin p S4 _ _ p1 (by omega) (fun z => absurd p2 z) (.inr p2) f4 d4
    · refine ifF rfl ?_
      exact leaf S2 _ _ Fs d2 fun p S4 p1 p2 f4 d4 => fin p S4 _ _ p1 (by omega) (fun z => absurd p2 z) (.inr p2) f4 d4
  · have e0 : due = 0 := by have := of_decide_eq_false hc; omega
    subst e0
    exact k t S1 ⟨hw, h1, h2, by omega⟩ (by omega) f1 d1
/-! ### rules drawn -/
theorem lc_drawG {n m i : Nat} {te : TD} {ρ : Ev} {Rq : Sto → Prop} {G : Sto → Prop} {xs : List D} (P : D → D → Prop) (d : Deal n m S) (hl : xs.length ≤ 100000) (hG : ∀ S', Frm [n, m] S S' → G S')
    (ht : ∀ x ∈ xs, ∀ S1 R, Frm [n, m] S S1 → Deal n m S1 → (∀ d S', P x d → Frm [n, m] S1 S' → Deal n m S' → R d S') → te noX (ρ.set i (some x)) S1 R)
    (k : ∀ ds S', Paired P xs ds → Frm [n, m] S S' → Deal n m S' → S'[S.length]? = some (.lst ds) → Rq S') :
    lcW S.length G (gNm i) tYesD te ρ Rq xs (S ++ [.lst []]) := by
  obtain ⟨hn, hm⟩ := d.lt
  refine lc_ind (fun j acc S' => Paired P (xs.take j) acc ∧ acc.length = j ∧ j ≤ xs.length ∧ Frm [n, m] S S' ∧ Deal n m S' ∧ S'[S.length]? = some (.lst acc)) xs (fun j acc S' h => ⟨hG _ h.2.2.2.1, h.2.2.2.2.2, by omega⟩) ?_ ⟨.nil, rfl, Nat.zero_le _, .app _, d.frm0 (.app _), get_last⟩ fun acc S' h => ?_
  · rintro j x acc S' R Z hx ⟨h0, h1, h2, h4, h5, h6⟩ kk _
    have hj := lt_of_get hx
    refine ifT rfl (ht x (List.mem_of_getElem? hx) S' R h4 h5 fun e S'' he f d' => ?_)
    have hq : S''[S.length]? = some (.lst acc) := f.get h6 (by simp; omega)
    have lq := lt_of_get hq
    refine kk e S'' hq ⟨?_, by simp [h1], hj, (h4.trans f).setNew (Nat.le_refl _), d'.set (by omega) (by omega), by rw [List.getElem?_set_self lq]⟩
    rw [List.take_succ, hx]
    exact Paired.snoc h0 he
  · have h0 := h.1
    rw [List.take_length] at h0
    exact k acc S' h0 h.2.2.2.1 h.2.2.2.2.1 h.2.2.2.2.2
theorem paired_map {P : D → D → Prop} {α : Type} {f : α → D} {Q : α → Prop} : ∀ {xs ds : List D}, Paired P xs ds → (∀ x ∈ xs, ∀ d, P x d → ∃ a, d = f a ∧ Q a) → ∃ as : List α, ds = as.map f ∧ (∀ a ∈ as, Q a) ∧ as.length = xs.length
  | _, _, .nil, _ => ⟨[], rfl, by simp, rfl⟩
  | _, _, .cons (a := x) (b := d) h t, hp => by
    obtain ⟨a, rfl, ha⟩ := hp x (by simp) d h
    obtain ⟨as, rfl, hs, hl⟩ := paired_map t fun y hy d hd => hp y (by simp [hy]) d hd
    exact ⟨a :: as, rfl, fun y hy => by
      rcases List.mem_cons.mp hy with rfl | hy
      · exact ha
      · exact hs y hy, by simp [hl]⟩
theorem wt_s {x : Str} : wt (.str x) = 1 := by rw [wt]; exact fun _ h => nomatch h
theorem wt_i {x : Int} : wt (.int x) = 1 := by rw [wt]; exact fun _ h => nomatch h
theorem wt_placed {p : Str × Int} : wt (placedD p) = 3 := by
  unfold placedD
  rw [wt_tup, wts_cons, wts_cons, wts_nil, wt_s, wt_i]
theorem wt_term {t : List (Str × Int)} (h : t.length ≤ 5) : wt (termD t) ≤ 16 := by
  unfold termD
  rw [wt_tup]
  have := wts_le (b := 3) (xs := t.map placedD) fun x hx => by
    obtain ⟨p, _, rfl⟩ := List.mem_map.mp hx
    exact Nat.le_of_eq wt_placed
  rw [List.length_map] at this
  omega
theorem wt_line {l : Str × List (List (Str × Int))} (h3 : l.2.length ≤ 3) (h : ∀ t ∈ l.2, t.length ≤ 5) : wt (lineD l) ≤ 60 := by
  unfold lineD
  rw [wt_tup, wts_cons, wts_cons, wts_nil, wt_tup, wt_s]
  have := wts_le (b := 16) (xs := l.2.map termD) fun x hx => by
    obtain ⟨p, hp, rfl⟩ := List.mem_map.mp hx
    exact wt_term (h p hp)
  rw [List.length_map] at this
  omega
theorem wt_rule {u : RuT} (h : u.1.length ≤ 5) (h1 : ∀ l ∈ u.1, wt (lineD l) ≤ 60) (h2 : wt (lineD u.2) ≤ 60) : wt (ruleD u) ≤ 400 := by
  unfold ruleD
  rw [wt_tup, wts_cons, wts_cons, wts_nil, wt_tup]
  have := wts_le (b := 60) (xs := u.1.map lineD) fun x hx => by
    obtain ⟨p, hp, rfl⟩ := List.mem_map.mp hx
    exact h1 p hp
  rw [List.length_map] at this
  omega
theorem nm_x {x : Str} (h : (decide (0 < x.cps.size) && decide (x.cps.size ≤ 8) && x.cps.toList.all fun c => decide (97 ≤ c) && decide (c ≤ 122)) = true) : Nm x := by
  simp only [Bool.and_eq_true, decide_eq_true_eq, List.all_eq_true] at h
  exact ⟨h.1.1, h.1.2, h.2⟩
abbrev leaf8 : List Str := ["x", "y", "z", "then", "u", "v", "w", "rule"]
abbrev leaf3 : List Str := ["xx", "yy", "zz"]
theorem leaf8_ok : ∀ x ∈ leaf8, Nm x := by
  have h : ∀ x ∈ leaf8, (decide (0 < x.cps.size) && decide (x.cps.size ≤ 8) && x.cps.toList.all fun c => decide (97 ≤ c) && decide (c ≤ 122)) = true := by decide +kernel
  exact fun x hx => nm_x (h x hx)
theorem leaf3_ok : ∀ x ∈ leaf3, Nm x := by
  have h : ∀ x ∈ leaf3, (decide (0 < x.cps.size) && decide (x.cps.size ≤ 8) && x.cps.toList.all fun c => decide (97 ≤ c) && decide (c ≤ 122)) = true := by decide +kernel
  exact fun x hx => nm_x (h x hx)
theorem cut_last {xs : List D} {x : D} : DL.cutD (xs ++ [x]) none (some (-1)) = xs := by
  unfold DL.cutD
  have e : HT.sIx (xs ++ [x]).length (xs ++ [x]).length (some (-1)) = xs.length := by
    simp [HT.sIx]
    try omega
  rw [HT.sIx_none, e, List.drop_zero, Nat.sub_zero, List.take_left']
  rfl
structure RelOk (rels : List (Str × Int)) : Prop where
  n : ∀ p ∈ rels, Nm p.1 ∧ 1 ≤ p.2 ∧ p.2 ≤ 3
  l0 : 0 < rels.length
  l1 : rels.length ≤ 1000
structure MkOkk (mks : List (Str × Int)) : Prop where
  n : ∀ p ∈ mks, Nm p.1 ∧ 0 ≤ p.2
  l1 : mks.length ≤ 1000
/-- a line drawn -/
structure LnW (rels mks : List (Str × Int)) (l : Str × List (List (Str × Int))) : Prop where
  ok : Ln rels mks l
  w : wt (lineD l) ≤ 60
theorem sp_drawn_rule {n m qr qm : Nat} {rels mks : List (Str × Int)} (d : Deal n m S) (hqr : S[qr]? = some (.lst (rels.map placedD))) (hqm : S[qm]? = some (.lst (mks.map placedD))) (nr : qr ∉ [n, m]) (nm : qm ∉ [n, m]) (hr : RelOk rels) (hm : MkOkk mks)
    (k : ∀ u S', Ru rels mks u → wt (ruleD u) ≤ 400 → Frm [n, m] S S' → Deal n m S' → R (ruleD u) S') : Cal w_law_drawn_rule [.ref n, .ref qr, .ref qm, .int 4] S R Rx := by
  refine .mk ?_
  rw [w_law_drawn_rule_eq]
  have hn := d.lt
  refine ⟨sz5 (show 8 ≤ 100000 by decide), ?_⟩
  have f0 : Frm [] S (S ++ [Ob.lst (leaf8.map D.str)]) := .app _
  refine sp_of (xs := leaf8.map D.str) (d.frm0 f0) get_last (by simp; omega) (by decide) (by decide) fun x S1 hx f1 d1 => ?_
  obtain ⟨x8, hx8, rfl⟩ := List.mem_map.mp hx
  refine ⟨sz5 (show 1 ≤ 100000 by decide), ?_⟩
  have F1 : Frm [n, m] S S1 := f0.nil.trans f1
  refine ⟨sz5 (show 3 ≤ 100000 by decide), ?_⟩
  have hn1 := d1.lt
  have f2 : Frm [] S1 (S1 ++ [Ob.lst [.str x8]] ++ [Ob.lst (leaf3.map D.str)]) := by rw [List.append_assoc]; exact .app _
  have g1 : (S1 ++ [Ob.lst [.str x8]] ++ [Ob.lst (leaf3.map D.str)])[S1.length]? = some (.lst [.str x8]) := (Frm.app (W := []) _).get0 get_last
  have l1 : (S1 ++ [Ob.lst [.str x8]]).length = S1.length + 1 := by simp
  have g2 : (S1 ++ [Ob.lst [.str x8]] ++ [Ob.lst (leaf3.map D.str)])[S1.length + 1]? = some (.lst (leaf3.map D.str)) := by rw [← l1]; exact get_last
  rw [l1]
  refine sp_any (d1.frm0 f2) (by decide) (lt8 (by decide)) fun r S2 r0 r1 f3 d3 => ?_
  obtain ⟨j, rfl⟩ : ∃ j : Nat, r = (j : Int) := ⟨r.toNat, by omega⟩
  refine lst_at (f3.get g2 (by simp; omega)) ?_
  rw [cut_lo]
  have g3 : (S2 ++ [Ob.lst ((leaf3.map D.str).take j)])[S1.length]? = some (.lst [.str x8]) := (Frm.app (W := []) _).get0 (f3.get g1 (by simp; omega))
  refine mlst_at g3 (mlst_at get_last ⟨sz5 (by simp; omega), ?_⟩)
  -- the names
  obtain ⟨nms, hnms, hok, hl0, hl1⟩ : ∃ nms : List Str, [D.str x8] ++ (leaf3.map D.str).take j = nms.map D.str ∧ (∀ x ∈ nms, Nm x) ∧ 0 < nms.length ∧ nms.length ≤ 4 := by
    refine ⟨x8 :: leaf3.take j, by rw [← List.map_take]; rfl, fun x hx => ?_, by simp, by simp; omega⟩
    rcases List.mem_cons.mp hx with rfl | hx
    · exact leaf8_ok _ hx8
    · exact leaf3_ok _ (List.mem_of_mem_take hx)
  rw [hnms]
  generalize hS3 : S2 ++ [Ob.lst ((leaf3.map D.str).take j)] = S3
  have f4 : Frm [] S2 S3 := by rw [← hS3]; exact .app _
  have F3 : Frm [n, m] S S3 := F1.trans ((f2.nil.trans f3).trans f4.nil)
  have d3' : Deal n m S3 := d3.frm0 f4
  clear hS3 g3
  have g5 : (S3 ++ [Ob.lst (nms.map D.str)])[S3.length]? = some (.lst (nms.map D.str)) := get_last
  have F4 : Frm [n, m] S (S3 ++ [Ob.lst (nms.map D.str)]) := F3.trans (.app _)
  have d4 : Deal n m (S3 ++ [Ob.lst (nms.map D.str)]) := d3'.frm0 (.app _)
  have hn3 := d3'.lt
  generalize S3 ++ [Ob.lst (nms.map D.str)] = S4 at g5 F4 d4 ⊢
  generalize S3.length = q4 at g5 hn3 ⊢
  refine iter_at g5 ?_
  have n4 : q4 ∉ [n, m] := by simp; omega
  refine lc_drawG (fun x d => ∃ nm, x = .str nm ∧ d = placedD (nm, -1)) d4 (by rw [List.length_map]; omega) (fun S' f => f.get g5 n4) (fun x hx S1 R f1 d1 k => ?_) fun ds S5 hp f5 d5 hq5 => ?_
  · obtain ⟨nm, _, rfl⟩ := List.mem_map.mp hx
    exact ⟨sz5 (show 2 ≤ 100000 by decide), k _ S1 ⟨nm, rfl, rfl⟩ .refl d1⟩
  obtain ⟨lvs, rfl, hlv, hll⟩ := paired_map (f := placedD) (Q := Lf) hp fun x hx d ⟨nm, e, ed⟩ => by
    obtain ⟨nm', hn', rfl⟩ := List.mem_map.mp hx
    have : nm' = nm := by injection e
    subst this
    exact ⟨_, ed, hok _ hn', rfl⟩
  rw [List.length_map] at hll
  have F5 : Frm [n, m] S S5 := F4.trans f5
  have hn4 := d4.lt
  have l5 : S4.length < S5.length := lt_of_get hq5
  -- the lines
  refine ⟨Nat.zero_le _, ?_⟩
  have f6 : Frm [] S5 (S5 ++ [Ob.lst []]) := .app _
  have g6 : (S5 ++ [Ob.lst []])[S5.length]? = some (.lst []) := get_last
  have hqr6 := (F5.trans f6.nil).get hqr nr
  have hqm6 := (F5.trans f6.nil).get hqm nm
  have hql6 : (S5 ++ [Ob.lst []])[S4.length]? = some (.lst (lvs.map placedD)) := f6.get0 hq5
  have d6 : Deal n m (S5 ++ [Ob.lst []]) := d5.frm0 f6
  have F6 : Frm [n, m] S (S5 ++ [Ob.lst []]) := F5.trans f6.nil
  have l6 := lt_of_get g6
  generalize S5 ++ [Ob.lst []] = S6 at g6 hqr6 hqm6 hql6 d6 F6 l6 ⊢
  refine sp_any (b := 5) d6 (by decide) (lt8 (by decide)) fun r S7 r0 r1 f7 d7 => ?_
  refine ⟨⟨by omega, by omega⟩, ?_⟩
  have n5 : S5.length ∉ [n, m] := by simp; omega
  have n6 : S4.length ∉ [n, m] := by simp; omega
  have g7 := f7.get g6 n5
  have F7 := F6.trans f7
  have ql7 := f7.get hql6 n6
  refine for_ind (fun j ρ S' => ∃ (ls : List (Str × List (List (Str × Int)))) (r7 r8 r9 r10 r11 : Option D), ρ = [some (.ref n), some (.ref qr), some (.ref qm), some (.int 4), some (.ref q4), some (.ref S4.length), some (.ref S5.length), r7, r8, r9, r10, r11] ∧ S'[S5.length]? = some (.lst (ls.map lineD)) ∧ (∀ l ∈ ls, LnW rels mks l) ∧ ls.length = j ∧ S'[S4.length]? = some (.lst (lvs.map placedD)) ∧ Deal n m S' ∧ Frm [n, m] S S') _
    (fun _ _ _ _ => trivial) ?_ ⟨[], none, none, none, none, none, rfl, g7, by simp, rfl, ql7, d7, F7⟩ ?_
  · rintro i x ρ S8 E' hx ⟨ls, r7, r8, r9, r10, r11, rfl, g8, hls, hi, ql8, d8, F8⟩ _ _ _ kk _
    obtain ⟨hi', rfl⟩ := getElem_range hx
    refine sp_of d8 (F8.get hqr nr) nr (by simpa using hr.l0) (by simpa using hr.l1) fun x S9 hx9 f9 d9 => ?_
    obtain ⟨p, hp9, rfl⟩ := List.mem_map.mp hx9
    obtain ⟨p1, p2, p3⟩ := hr.n p hp9
    refine ⟨rfl, ?_⟩
    have g9 := f9.get g8 n5
    have F9 := F8.trans f9
    have ql9 := f9.get ql8 n6
    refine ⟨mlst_at g9 trivial, ⟨⟨by omega, by omega⟩, ?_⟩⟩
    have hn9 := d9.lt
    refine lc_drawG (fun x d => ∃ t, d = termD t ∧ Tm mks t ∧ t.length ≤ 5) d9 (by rw [range_len]; omega) (fun _ _ => trivial) (fun x hx Sa Ra fa da ka => ?_) fun ds Sb hb fb db hqb => ?_
    · refine sp_any da (by decide) (lt8 (by decide)) fun r Sc c0 c1 fc dc => ?_
      have e : (1 : Int) + r = ((1 + r).toNat : Int) := by omega
      show Cal w_law_drawn_term [.ref n, .ref qm, .ref S4.length, .int (1 + r)] _ _ _
      rw [e]
      refine sp_drawn_term (mks := mks) (lvs := lvs) dc (((F9.trans fa).trans fc).get hqm nm) (fc.get (fa.get ql9 n6) n6) nm n6 hm.n hm.l1 hlv (by omega) (by omega) (by omega) (by omega) fun t Sd ht h5 fd dd => ?_
      exact ka _ Sd ⟨t, rfl, ht, h5⟩ (fc.trans fd) dd
    obtain ⟨ts, rfl, hts, htl⟩ := paired_map (f := termD) (Q := fun t => Tm mks t ∧ t.length ≤ 5) hb fun x _ d ⟨t, e, h⟩ => ⟨t, e, h⟩
    rw [range_len] at htl
    refine lst_at hqb ⟨sz5 (show 2 ≤ 100000 by decide), ?_⟩
    have gb := fb.get g9 n5
    have lb := lt_of_get gb
    have hs : 100000 < sizeLine := by decide
    refine mlst_at gb ⟨by rw [List.length_map]; omega, ?_⟩
    have hline : LnW rels mks (p.1, ts) := by
      refine ⟨⟨p1, ?_, fun t ht => (hts t ht).1, by show ts.length ≤ 1000; omega⟩, wt_line (by show ts.length ≤ 3; omega) fun t ht => (hts t ht).2⟩
      have : (p.1, (ts.length : Int)) = p := by
        have : (ts.length : Int) = p.2 := by omega
        rw [this]
      rw [this]
      exact hp9
    refine kk _ _ ⟨ls ++ [(p.1, ts)], _, _, _, _, _, rfl, ?_, ?_, by simp [hi], ?_, db.set (by omega) (by omega), ?_⟩
    · rw [List.getElem?_set_self lb, List.map_append]
      rfl
    · intro l hl
      rcases List.mem_append.mp hl with hl | hl
      · exact hls l hl
      · rw [List.mem_singleton.mp hl]; exact hline
    · rw [List.getElem?_set_ne (by omega)]
      exact fb.get ql9 n6
    · exact (F9.trans fb).setNew (by have := F4.len; omega)
  · rintro ρ S8 ⟨ls, r7, r8, r9, r10, r11, rfl, g8, hls, hi, ql8, d8, F8⟩
    rw [range_len] at hi
    obtain ⟨ls', l, rfl⟩ : ∃ ls' l, ls = ls' ++ [l] := snoc_of (by intro e; rw [e] at hi; simp at hi; omega)
    have em : (ls' ++ [l]).map lineD = ls'.map lineD ++ [lineD l] := by simp
    rw [em] at g8
    refine lst_at g8 ?_
    refine lst_at get_last ?_
    have e1 : DL.cutD (ls'.map lineD ++ [lineD l]) none (some (-1)) = ls'.map lineD := cut_last
    have g8' : (S8 ++ [Ob.lst (DL.cutD (ls'.map lineD ++ [lineD l]) none (some (-1)))])[S5.length]? = some (.lst (ls'.map lineD ++ [lineD l])) := (Frm.app (W := []) _).get0 g8
    refine lst_at g8' (ix_at (atI_last _ _) ⟨sz5 (show 2 ≤ 100000 by decide), ?_⟩)
    have hlen : ls'.length ≤ 5 := by simp at hi; omega
    have hu : R (ruleD (ls', l)) (S8 ++ [Ob.lst (DL.cutD (ls'.map lineD ++ [lineD l]) none (some (-1)))]) := by
      refine k (ls', l) _ ⟨fun x hx => (hls x (by simp [hx])).ok, (hls l (by simp)).ok, by show ls'.length ≤ 1000; omega⟩ (wt_rule hlen (fun x hx => (hls x (by simp [hx])).w) (hls l (by simp)).w) (F8.trans (.app _)) (d8.frm0 (.app _))
    show R (.tup [.tup (DL.cutD (ls'.map lineD ++ [lineD l]) none (some (-1))), lineD l]) _
    rw [e1]
    rw [e1] at hu
    exact hu
/-! ### kits drawn -/
structure KitAt (q : Nat) (r m u : D) (S : Sto) : Prop where
  ex : ∃ ep kvs, S[q]? = some (.dic false ep kvs) ∧ look kvs (.str "relations") = some r ∧ look kvs (.str "makers") = some m ∧ look kvs (.str "rules") = some u
theorem KitAt.frm {q : Nat} {r m u : D} {S S' : Sto} {W : List Nat} (h : KitAt q r m u S) (f : Frm W S S') (hn : q ∉ W) : KitAt q r m u S' := by
  obtain ⟨ep, kvs, h1, h2⟩ := h
  exact ⟨ep, kvs, f.get h1 hn, h2⟩
theorem KitAt.rel {q : Nat} {r m u : D} {R : D → Prop} (h : KitAt q r m u S) (k : R r) : dgetAt q (.str "relations") S R := by
  obtain ⟨ep, kvs, h1, h2, h3, h4⟩ := h
  exact dget_at h1 key_str h2 k
theorem KitAt.mak {q : Nat} {r m u : D} {R : D → Prop} (h : KitAt q r m u S) (k : R m) : dgetAt q (.str "makers") S R := by
  obtain ⟨ep, kvs, h1, h2, h3, h4⟩ := h
  exact dget_at h1 key_str h3 k
theorem KitAt.rul {q : Nat} {r m u : D} {R : D → Prop} (h : KitAt q r m u S) (k : R u) : dgetAt q (.str "rules") S R := by
  obtain ⟨ep, kvs, h1, h2, h3, h4⟩ := h
  exact dget_at h1 key_str h4 k
theorem key_ne1 : ¬ (D.str "rules" = D.str "relations") := fun h => by
  injection h with h
  exact absurd h (by decide)
theorem key_ne2 : ¬ (D.str "makers" = D.str "relations") := fun h => by
  injection h with h
  exact absurd h (by decide)
theorem key_ne3 : ¬ (D.str "rules" = D.str "makers") := fun h => by
  injection h with h
  exact absurd h (by decide)
theorem sp_law_kit {qr qm qu : Nat} {rels mks : List (Str × Int)} {us : List D} (h1 : S[qr]? = some (.lst (rels.map placedD))) (h2 : S[qm]? = some (.lst (mks.map placedD))) (h3 : S[qu]? = some (.lst us)) (l1 : rels.length ≤ 1000) (l2 : mks.length ≤ 1000)
    (k : ∀ q S', Frm [] S S' → KitAt q (.tup ((rels.map placedD).mergeSort leP)) (.tup ((mks.map placedD).mergeSort leP)) (.tup us) S' → S.length ≤ q → R (.ref q) S') : Cal w_law_kit [.ref qr, .ref qm, .ref qu] S R Rx := by
  refine .mk ?_
  rw [w_law_kit_eq]
  have a1 : Frm [] S (S ++ [Ob.dkK []]) := .app _
  refine lst_at (a1.get0 h1) ⟨sortOk_placed l1, lst_at get_last ?_⟩
  have a2 := a1.trans (.app [Ob.lst ((rels.map placedD).mergeSort leP)])
  refine lst_at (a2.get0 h2) ⟨sortOk_placed l2, lst_at get_last ?_⟩
  have a3 := a2.trans (.app [Ob.lst ((mks.map placedD).mergeSort leP)])
  refine lst_at (a3.get0 h3) ?_
  have g0 : (S ++ [Ob.dkK []])[S.length]? = some (.dkK []) := get_last
  have g1 : (S ++ [Ob.dkK []] ++ [Ob.lst ((rels.map placedD).mergeSort leP)] ++ [Ob.lst ((mks.map placedD).mergeSort leP)])[S.length]? = some (.dkK []) := by
    rw [List.append_assoc]
    exact (Frm.app (W := []) _).get0 g0
  refine .mk [] g1 ⟨rfl, by simp, fun p hp => ?_, fun ep => ?_⟩
  · simp only [List.mem_cons, List.not_mem_nil, or_false] at hp
    rcases hp with rfl | rfl | rfl <;> exact key_str
  · have lg := lt_of_get g1
    refine k _ _ (a3.setNew (Nat.le_refl _)) ⟨ep, _, List.getElem?_set_self lg, ?_, ?_, ?_⟩ (Nat.le_refl _)
    · show look (putP (putP (putP [] (.str "relations") _) (.str "makers") _) (.str "rules") _) (.str "relations") = _
      rw [look_put, if_neg key_ne1, look_put, if_neg key_ne2, look_put, if_pos rfl]
    · show look (putP (putP (putP [] (.str "relations") _) (.str "makers") _) (.str "rules") _) (.str "makers") = _
      rw [look_put, if_neg key_ne3, look_put, if_pos rfl]
    · show look (putP (putP (putP [] (.str "relations") _) (.str "makers") _) (.str "rules") _) (.str "rules") = _
      rw [look_put, if_pos rfl]
theorem Tm.perm {mks mks' t : List (Str × Int)} (h : Tm mks t) (p : mks'.Perm mks) : Tm mks' t := ⟨h.w, h.nm, fun x hx hn => p.mem_iff.mpr (h.mem x hx hn), h.ln⟩
theorem Ln.perm {rels rels' mks mks' : List (Str × Int)} {l : Str × List (List (Str × Int))} (h : Ln rels mks l) (pr : rels'.Perm rels) (pm : mks'.Perm mks) : Ln rels' mks' l := ⟨h.nm, pr.mem_iff.mpr h.mem, fun t ht => (h.tm t ht).perm pm, h.ln⟩
theorem Ru.perm {rels rels' mks mks' : List (Str × Int)} {u : RuT} (h : Ru rels mks u) (pr : rels'.Perm rels) (pm : mks'.Perm mks) : Ru rels' mks' u := ⟨fun l hl => (h.ls l hl).perm pr pm, h.l.perm pr pm, h.ln⟩
/-! #### names apart -/
def hdc (x : Str) : Nat := x.cps.toList.headD 0
theorem NameAt.hdc {i : Nat} {x : Str} (h : NameAt i x) : hdc x = 97 + i := by
  obtain ⟨r, e, _⟩ := h.hd
  unfold K02.hdc
  rw [e]
  rfl
/-- the odd pair beside the names -/
structure OddP (nms : List (Nat × Str)) (o1 o2 : Str) : Prop where
  n1 : Nm o1
  n2 : Nm o2
  ap : (109 ≤ hdc o1 ∧ 109 ≤ hdc o2 ∧ hdc o1 ≠ hdc o2) ∨ (nms.drop 10).map (·.2) = [o1, o2]
theorem ex12 {α : Type} : ∀ l : List α, l.length = 12 → ∃ a0 a1 a2 a3 a4 a5 a6 a7 a8 a9 a10 a11, l = [a0, a1, a2, a3, a4, a5, a6, a7, a8, a9, a10, a11]
  | [a0, a1, a2, a3, a4, a5, a6, a7, a8, a9, a10, a11], _ => ⟨a0, a1, a2, a3, a4, a5, a6, a7, a8, a9, a10, a11, rfl⟩
theorem apart {nms : List (Nat × Str)} {o1 o2 : Str} (hl : nms.length = 12) (hi : ∀ a ∈ nms, a.1 < 12 ∧ NameAt a.1 a.2) (hn : (nms.map (·.1)).Nodup) (ho : OddP nms o1 o2) : ((o1 :: (nms.take 5).map (·.2)) ++ (o2 :: ((nms.drop 6).take 3).map (·.2))).Nodup := by
  have hh : ((nms.map (·.2)).map hdc).Nodup := by
    rw [List.map_map, show nms.map (hdc ∘ fun a => a.2) = (nms.map (·.1)).map (97 + ·) by
      rw [List.map_map]
      exact List.map_congr_left fun a ha => (hi a ha).2.hdc]
    exact List.Pairwise.map _ (fun a b h e => h (by omega)) hn
  have bd : ∀ a ∈ nms, hdc a.2 ≤ 108 := fun a ha => by
    have := (hi a ha).2.hdc
    have := (hi a ha).1
    omega
  suffices h : (((o1 :: (nms.take 5).map (·.2)) ++ (o2 :: ((nms.drop 6).take 3).map (·.2))).map hdc).Nodup from List.Pairwise.of_map hdc (fun a b h e => h (congrArg hdc e)) h
  clear hi hn
  obtain ⟨a0, a1, a2, a3, a4, a5, a6, a7, a8, a9, a10, a11, rfl⟩ := ex12 nms hl
  · skip
    have hh : ([hdc a0.2, hdc a1.2, hdc a2.2, hdc a3.2, hdc a4.2, hdc a5.2, hdc a6.2, hdc a7.2, hdc a8.2, hdc a9.2, hdc a10.2, hdc a11.2] : List Nat).Nodup := hh
    show ([hdc o1, hdc a0.2, hdc a1.2, hdc a2.2, hdc a3.2, hdc a4.2, hdc o2, hdc a6.2, hdc a7.2, hdc a8.2] : List Nat).Nodup
    have b0 := bd a0 (by simp)
    have b1 := bd a1 (by simp)
    have b2 := bd a2 (by simp)
    have b3 := bd a3 (by simp)
    have b4 := bd a4 (by simp)
    have b6 := bd a6 (by simp)
    have b7 := bd a7 (by simp)
    have b8 := bd a8 (by simp)
    clear bd
    rcases ho.ap with ⟨z1, z2, z3⟩ | z
    · have hs : ([hdc a0.2, hdc a1.2, hdc a2.2, hdc a3.2, hdc a4.2] ++ [hdc a6.2, hdc a7.2, hdc a8.2] : List Nat).Nodup := by
        refine List.Pairwise.sublist ?_ hh
        repeat first | exact List.Sublist.slnil | refine List.Sublist.cons₂ _ ?_ | refine List.Sublist.cons _ ?_
      have e : ([hdc o1, hdc a0.2, hdc a1.2, hdc a2.2, hdc a3.2, hdc a4.2, hdc o2, hdc a6.2, hdc a7.2, hdc a8.2] : List Nat) = hdc o1 :: ([hdc a0.2, hdc a1.2, hdc a2.2, hdc a3.2, hdc a4.2] ++ hdc o2 :: [hdc a6.2, hdc a7.2, hdc a8.2]) := rfl
      rw [e, List.nodup_cons]
      refine ⟨?_, (List.perm_middle.nodup_iff).mpr (List.nodup_cons.mpr ⟨?_, hs⟩)⟩
      · simp only [List.cons_append, List.nil_append, List.mem_cons, List.not_mem_nil, or_false]
        omega
      · simp only [List.cons_append, List.nil_append, List.mem_cons, List.not_mem_nil, or_false]
        omega
    · have e1 : [a10.2, a11.2] = [o1, o2] := z
      injection e1 with e1 e2
      injection e2 with e2 _
      subst e1
      subst e2
      have hs : ([hdc a0.2, hdc a1.2, hdc a2.2, hdc a3.2, hdc a4.2, hdc a6.2, hdc a7.2, hdc a8.2, hdc a10.2, hdc a11.2] : List Nat).Nodup := by
        refine List.Pairwise.sublist ?_ hh
        repeat first | exact List.Sublist.slnil | refine List.Sublist.cons₂ _ ?_ | refine List.Sublist.cons _ ?_
      have p : ([hdc a10.2, hdc a0.2, hdc a1.2, hdc a2.2, hdc a3.2, hdc a4.2, hdc a11.2, hdc a6.2, hdc a7.2, hdc a8.2] : List Nat).Perm [hdc a0.2, hdc a1.2, hdc a2.2, hdc a3.2, hdc a4.2, hdc a6.2, hdc a7.2, hdc a8.2, hdc a10.2, hdc a11.2] := by
        have q1 : ([hdc a0.2, hdc a1.2, hdc a2.2, hdc a3.2, hdc a4.2, hdc a6.2, hdc a7.2, hdc a8.2] ++ hdc a10.2 :: [hdc a11.2] : List Nat).Perm (hdc a10.2 :: ([hdc a0.2, hdc a1.2, hdc a2.2, hdc a3.2, hdc a4.2, hdc a6.2, hdc a7.2, hdc a8.2] ++ [hdc a11.2])) := List.perm_middle
        have q2 : ([hdc a0.2, hdc a1.2, hdc a2.2, hdc a3.2, hdc a4.2] ++ hdc a11.2 :: [hdc a6.2, hdc a7.2, hdc a8.2] : List Nat).Perm (hdc a11.2 :: ([hdc a0.2, hdc a1.2, hdc a2.2, hdc a3.2, hdc a4.2] ++ [hdc a6.2, hdc a7.2, hdc a8.2])) := List.perm_middle
        have q3 : ([hdc a0.2, hdc a1.2, hdc a2.2, hdc a3.2, hdc a4.2, hdc a6.2, hdc a7.2, hdc a8.2] ++ hdc a11.2 :: [] : List Nat).Perm (hdc a11.2 :: ([hdc a0.2, hdc a1.2, hdc a2.2, hdc a3.2, hdc a4.2, hdc a6.2, hdc a7.2, hdc a8.2] ++ [])) := List.perm_middle
        exact ((q2.trans q3.symm).cons _).trans q1.symm
      exact p.nodup_iff.mpr hs
theorem paired_names {P : D → D → Prop} {Q : Int → Prop} : ∀ {ns : List Str} {ds : List D}, Paired P (ns.map D.str) ds → (∀ x d, P (.str x) d → ∃ v, d = placedD (x, v) ∧ Q v) → ∃ ps : List (Str × Int), ds = ps.map placedD ∧ ps.map (·.1) = ns ∧ ∀ p ∈ ps, Q p.2
  | [], _, .nil, _ => ⟨[], rfl, rfl, by simp⟩
  | n :: ns, _, .cons h t, hp => by
    obtain ⟨v, rfl, hv⟩ := hp n _ h
    obtain ⟨ps, rfl, e, hq⟩ := paired_names t hp
    exact ⟨(n, v) :: ps, rfl, by rw [List.map_cons, e], fun p hp => by
      rcases List.mem_cons.mp hp with rfl | hp
      · exact hv
      · exact hq p hp⟩
def gN : D → Nat
  | .int i => i.toNat
  | _ => 0
theorem range_gN {k : Nat} : (rangeD 0 k).map gN = List.range k := by
  unfold rangeD
  rw [List.map_map]
  have : (gN ∘ fun (i : Nat) => D.int (0 + (i : Int))) = id := by
    funext i
    show (0 + (i : Int)).toNat = i
    omega
  rw [this, List.map_id]
abbrev oddL : List (List Str) := [["then", "rule"], ["maker", "then"], ["relation", "then"]]
theorem odd_ok {nms : List (Nat × Str)} : ∀ l ∈ oddL, ∃ o1 o2, l = [o1, o2] ∧ OddP nms o1 o2 := by
  have h : ∀ l ∈ oddL, ∀ x ∈ l, (decide (0 < x.cps.size) && decide (x.cps.size ≤ 8) && x.cps.toList.all fun c => decide (97 ≤ c) && decide (c ≤ 122)) = true := by decide +kernel
  have h2 : (109 ≤ hdc "then" ∧ 109 ≤ hdc "rule" ∧ hdc "then" ≠ hdc "rule") ∧ (109 ≤ hdc "maker" ∧ 109 ≤ hdc "then" ∧ hdc "maker" ≠ hdc "then") ∧ (109 ≤ hdc "relation" ∧ 109 ≤ hdc "then" ∧ hdc "relation" ≠ hdc "then") := by decide +kernel
  intro l hl
  simp only [List.mem_cons, List.not_mem_nil, or_false] at hl
  rcases hl with rfl | rfl | rfl
  · exact ⟨_, _, rfl, nm_x (h ["then", "rule"] (by simp) _ (by simp)), nm_x (h ["then", "rule"] (by simp) _ (by simp)), .inl h2.1⟩
  · exact ⟨_, _, rfl, nm_x (h ["maker", "then"] (by simp) _ (by simp)), nm_x (h ["maker", "then"] (by simp) _ (by simp)), .inl h2.2.1⟩
  · exact ⟨_, _, rfl, nm_x (h ["relation", "then"] (by simp) _ (by simp)), nm_x (h ["relation", "then"] (by simp) _ (by simp)), .inl h2.2.2⟩
theorem take6 {α : Type} {o : α} {l : List α} {j : Nat} (h : j ≤ 6) : (o :: l).take j = (o :: l.take 5).take j := by
  have e : (o :: l.take 5) = (o :: l).take 6 := rfl
  rw [e, List.take_take, Nat.min_eq_left h]
theorem take4 {α : Type} {o : α} {l : List α} {j : Nat} (h : j ≤ 4) : (o :: l).take j = (o :: l.take 3).take j := by
  have e : (o :: l.take 3) = (o :: l).take 4 := rfl
  rw [e, List.take_take, Nat.min_eq_left h]
/-- what is drawn of a kit -/
structure KitW (rels mks : List (Str × Int)) (us : List RuT) : Prop where
  ok : KitOk rels mks us
  w : ∀ u ∈ us, wt (ruleD u) ≤ 400
  u14 : us.length ≤ 14
  r6 : rels.length ≤ 6
  m4 : mks.length ≤ 4
/-- names with their counts, sorted -/
theorem kit_ok {nms : List (Nat × Str)} {o1 o2 : Str} {j i : Nat} {ps qs : List (Str × Int)} {us : List RuT} (hl : nms.length = 12) (hi : ∀ a ∈ nms, a.1 < 12 ∧ NameAt a.1 a.2) (hn : (nms.map (·.1)).Nodup) (ho : OddP nms o1 o2) (hj1 : 1 ≤ j) (hj : j ≤ 6) (hi4 : i ≤ 4)
    (ep : ps.map (·.1) = (o1 :: nms.map (·.2)).take j) (eq : qs.map (·.1) = (o2 :: (nms.map (·.2)).drop 6).take i) (hp : ∀ p ∈ ps, 1 ≤ p.2) (hq : ∀ p ∈ qs, 0 ≤ p.2) (hu : ∀ u ∈ us, Ru ps qs u) (hw : ∀ u ∈ us, wt (ruleD u) ≤ 400) (hul : us.length ≤ 14) :
    ∃ rels mks, (ps.map placedD).mergeSort leP = rels.map placedD ∧ (qs.map placedD).mergeSort leP = mks.map placedD ∧ KitW rels mks us := by
  have ap := apart hl hi hn ho
  have nd : (ps.map (·.1) ++ qs.map (·.1)).Nodup := by
    refine List.Pairwise.sublist ?_ ap
    rw [ep, eq, take6 hj, take4 hi4, ← List.map_take, ← List.map_drop, ← List.map_take]
    exact List.Sublist.append (List.take_sublist _ _) (List.take_sublist _ _)
  have nmA : ∀ x ∈ nms.map (·.2), Nm x := fun x hx => by
    obtain ⟨a, ha, rfl⟩ := List.mem_map.mp hx
    exact (hi a ha).2.nm (hi a ha).1
  have np : ∀ p ∈ ps, Nm p.1 := fun p hp => by
    have : p.1 ∈ (o1 :: nms.map (·.2)).take j := by rw [← ep]; exact List.mem_map_of_mem hp
    rcases List.mem_cons.mp (List.mem_of_mem_take this) with e | e
    · rw [e]; exact ho.n1
    · exact nmA _ e
  have nq : ∀ p ∈ qs, Nm p.1 := fun p hp => by
    have : p.1 ∈ (o2 :: (nms.map (·.2)).drop 6).take i := by rw [← eq]; exact List.mem_map_of_mem hp
    rcases List.mem_cons.mp (List.mem_of_mem_take this) with e | e
    · rw [e]; exact ho.n2
    · exact nmA _ (List.mem_of_mem_drop e)
  obtain ⟨n1, n2, n3⟩ := List.nodup_append.mp nd
  obtain ⟨rels, e1, p1, a1⟩ := sorted_placed (ps := ps) (List.Pairwise.of_map (·.1) (fun a b h e => h (by rw [e])) n1)
  obtain ⟨mks, e2, p2, a2⟩ := sorted_placed (ps := qs) (List.Pairwise.of_map (·.1) (fun a b h e => h (by rw [e])) n2)
  have lp : ps.length = (List.take j (o1 :: nms.map (·.2))).length := by rw [← ep, List.length_map]
  have lq : qs.length = (List.take i (o2 :: (nms.map (·.2)).drop 6)).length := by rw [← eq, List.length_map]
  have lp' : ps.length = j := by rw [lp]; simp; omega
  have lq' : qs.length ≤ 4 := by rw [lq]; simp; omega
  refine ⟨rels, mks, e1, e2, ⟨?_, ?_, ?_, by omega, fun p hp' => ⟨np p (p1.mem_iff.mp hp'), hp p (p1.mem_iff.mp hp')⟩, fun p hp' => ⟨nq p (p2.mem_iff.mp hp'), hq p (p2.mem_iff.mp hp')⟩, a1, a2, fun p hp' q hq' => ?_, fun u h => (hu u h).perm p1 p2⟩, hw, hul, by rw [p1.length_eq]; omega, by rw [p2.length_eq]; omega⟩
  · intro e
    have := p1.length_eq
    rw [e] at this
    simp at this
    omega
  · rw [p1.length_eq]; omega
  · rw [p2.length_eq]; omega
  · exact n3 p.1 (List.mem_map_of_mem (p1.mem_iff.mp hp')) q.1 (List.mem_map_of_mem (p2.mem_iff.mp hq'))
theorem names_of {ys ds : List D} (hy : ys.Perm (rangeD 0 12)) (hp : Paired (fun x d => ∃ (i : Nat) (nm : Str), x = .int i ∧ i < 12 ∧ d = .str nm ∧ NameAt i nm) ys ds) : ∃ nms : List (Nat × Str), ds = (nms.map (·.2)).map D.str ∧ nms.length = 12 ∧ (∀ a ∈ nms, a.1 < 12 ∧ NameAt a.1 a.2) ∧ (nms.map (·.1)).Nodup := by
  have go : ∀ {ys ds : List D}, Paired (fun x d => ∃ (i : Nat) (nm : Str), x = .int i ∧ i < 12 ∧ d = .str nm ∧ NameAt i nm) ys ds → ∃ nms : List (Nat × Str), ds = (nms.map (·.2)).map D.str ∧ ys.map gN = nms.map (·.1) ∧ ∀ a ∈ nms, a.1 < 12 ∧ NameAt a.1 a.2 := by
    intro ys ds h
    induction h with
    | nil => exact ⟨[], rfl, rfl, by simp⟩
    | cons h _ ih =>
      obtain ⟨i, nm, rfl, hi, rfl, hn⟩ := h
      obtain ⟨nms, e1, e2, e3⟩ := ih
      refine ⟨(i, nm) :: nms, by rw [e1]; rfl, by rw [List.map_cons, List.map_cons, e2]; rfl, fun a ha => ?_⟩
      rcases List.mem_cons.mp ha with rfl | ha
      · exact ⟨hi, hn⟩
      · exact e3 a ha
  obtain ⟨nms, e1, e2, e3⟩ := go hp
  have pm := hy.map gN
  rw [range_gN, e2] at pm
  refine ⟨nms, e1, ?_, e3, pm.nodup_iff.mpr List.nodup_range⟩
  have := pm.length_eq
  simpa using this
theorem sp_drawn_kit {n m : Nat} (d : Deal n m S) (k : ∀ rels mks us q S', KitW rels mks us → Frm [n, m] S S' → Deal n m S' → KitAt q (termD rels) (termD mks) (rulesD us) S' → q ∉ [n, m] → R (.ref q) S') : Cal w_law_drawn_kit [.ref n] S R Rx := by
  refine .mk ?_
  rw [w_law_drawn_kit_eq]
  have hn := d.lt
  refine ⟨⟨by decide, by decide⟩, ?_⟩
  refine sp_mixed (xs := rangeD 0 12) (d.frm0 (.app _)) get_last (by rw [range_len]; decide) fun ys b S1 hp f1 d1 hb lb => ?_
  have F1 : Frm [n, m] S S1 := (Frm.app (W := [n, m]) _).trans f1
  simp only [List.length_append, List.length_cons, List.length_nil] at lb
  have nb : b ∉ [n, m] := by simp; omega
  refine iter_at hb ?_
  have yl : ys.length = 12 := by rw [hp.length_eq, range_len]
  refine lc_drawG (fun x d => ∃ (i : Nat) (nm : Str), x = .int i ∧ i < 12 ∧ d = .str nm ∧ NameAt i nm) d1 (by omega) (fun S' f => f.get hb nb) (fun x hx Sa Ra fa da ka => ?_) fun ds S2 hds f2 d2 hq2 => ?_
  · obtain ⟨i, hi, e⟩ := List.mem_map.mp (hp.mem_iff.mp hx)
    subst e
    have hi12 : i < 12 := List.mem_range.mp hi
    show Cal w_law_name [.ref n, .int (0 + (i : Int))] _ _ _
    rw [Int.zero_add]
    refine sp_name da hi12 fun x Sb hx fb db => ka _ Sb ⟨i, x, by rw [Int.zero_add], hi12, rfl, hx⟩ fb db
  obtain ⟨nms, rfl, nl, ni, nn⟩ := names_of hp hds
  have F2 := F1.trans f2
  have hn1 := d1.lt
  have l2 := lt_of_get hq2
  -- the odd pair
  refine ⟨sz5 (show 2 ≤ 100000 by decide), sz5 (show 2 ≤ 100000 by decide), sz5 (show 2 ≤ 100000 by decide), ?_⟩
  have a1 : Frm [] S2 (S2 ++ [Ob.lst [.str "then", .str "rule"]] ++ [Ob.lst [.str "maker", .str "then"]] ++ [Ob.lst [.str "relation", .str "then"]]) := ((Frm.app _).trans (.app _)).trans (.app _)
  refine lst_at (a1.get0 hq2) ⟨sz5 (show 4 ≤ 100000 by decide), ?_⟩
  have ecut : DL.cutD ((nms.map (·.2)).map D.str) (some 10) none = ((nms.map (·.2)).map D.str).drop 10 := cut_hi (j := 10)
  rw [ecut]
  generalize hS3 : S2 ++ [Ob.lst [.str "then", .str "rule"]] ++ [Ob.lst [.str "maker", .str "then"]] ++ [Ob.lst [.str "relation", .str "then"]] ++ [Ob.lst (((nms.map (·.2)).map D.str).drop 10)] = S3
  have l1a : (S2 ++ [Ob.lst [.str "then", .str "rule"]]).length = S2.length + 1 := by simp
  have l2a : (S2 ++ [Ob.lst [.str "then", .str "rule"]] ++ [Ob.lst [.str "maker", .str "then"]]).length = S2.length + 2 := by simp
  have l3a : (S2 ++ [Ob.lst [.str "then", .str "rule"]] ++ [Ob.lst [.str "maker", .str "then"]] ++ [Ob.lst [.str "relation", .str "then"]]).length = S2.length + 3 := by simp
  have a2 : Frm [] S2 S3 := by rw [← hS3]; exact a1.trans (.app _)
  have c1 : S3[S2.length]? = some (.lst [.str "then", .str "rule"]) := by rw [← hS3]; simp
  have c2 : S3[S2.length + 1]? = some (.lst [.str "maker", .str "then"]) := by rw [← hS3]; simp
  have c3 : S3[S2.length + 2]? = some (.lst [.str "relation", .str "then"]) := by rw [← hS3]; simp
  have c4 : S3[S2.length + 3]? = some (.lst (((nms.map (·.2)).map D.str).drop 10)) := by rw [← hS3]; simp
  rw [l1a, l2a, l3a]
  clear hS3
  have a3 : Frm [] S3 (S3 ++ [Ob.lst [.ref S2.length, .ref (S2.length + 1), .ref (S2.length + 2), .ref (S2.length + 3)]]) := .app _
  have hn2 := d2.lt
  refine sp_of (xs := [.ref S2.length, .ref (S2.length + 1), .ref (S2.length + 2), .ref (S2.length + 3)]) ((d2.frm0 a2).frm0 a3) get_last (by have := a2.len; simp; omega) (by simp) (by simp) fun x S4 hx f4 d4 => ?_
  have F4 : Frm [n, m] S S4 := F2.trans ((a2.trans a3).nil.trans f4)
  have hq4 : S4[S1.length]? = some (.lst ((nms.map (·.2)).map D.str)) := f4.get ((a2.trans a3).get0 hq2) (by simp; omega)
  obtain ⟨qo, o1, o2, rfl, hqo, ho, lqo⟩ : ∃ (qo : Nat) (o1 o2 : Str), x = .ref qo ∧ S4[qo]? = some (.lst [.str o1, .str o2]) ∧ OddP nms o1 o2 ∧ S2.length ≤ qo := by
    simp only [List.mem_cons, List.not_mem_nil, or_false] at hx
    rcases hx with rfl | rfl | rfl | rfl
    · obtain ⟨p1, p2, e, h⟩ := odd_ok (nms := nms) ["then", "rule"] (by simp)
      injection e with e1 e2
      injection e2 with e2 _
      subst e1
      subst e2
      exact ⟨_, _, _, rfl, f4.get (a3.get0 c1) (by simp; omega), h, by omega⟩
    · obtain ⟨p1, p2, e, h⟩ := odd_ok (nms := nms) ["maker", "then"] (by simp)
      injection e with e1 e2
      injection e2 with e2 _
      subst e1
      subst e2
      exact ⟨_, _, _, rfl, f4.get (a3.get0 c2) (by simp; omega), h, by omega⟩
    · obtain ⟨p1, p2, e, h⟩ := odd_ok (nms := nms) ["relation", "then"] (by simp)
      injection e with e1 e2
      injection e2 with e2 _
      subst e1
      subst e2
      exact ⟨_, _, _, rfl, f4.get (a3.get0 c3) (by simp; omega), h, by omega⟩
    · obtain ⟨b0, b1, b2, b3, b4, b5, b6, b7, b8, b9, b10, b11, rfl⟩ := ex12 nms nl
      have z10 := ni b10 (by simp)
      have z11 := ni b11 (by simp)
      exact ⟨_, b10.2, b11.2, rfl, f4.get (a3.get0 c4) (by simp; omega), ⟨z10.2.nm z10.1, z11.2.nm z11.1, .inr rfl⟩, by omega⟩
  have no : qo ∉ [n, m] := by simp; omega
  have n1 : S1.length ∉ [n, m] := by simp; omega
  -- how many
  refine sp_any d4 (by decide) (lt8 (by decide)) fun r S5 r0 r1 f5 d5 => ?_
  refine sp_any d5 (by decide) (lt8 (by decide)) fun t S6 t0 t1 f6 d6 => ?_
  have F6 := F4.trans (f5.trans f6)
  have hq6 := (f5.trans f6).get hq4 n1
  have hqo6 := (f5.trans f6).get hqo no
  have L6 : S4.length ≤ S6.length := (f5.trans f6).len
  obtain ⟨j, hj⟩ : ∃ j : Nat, (1 : Int) + r = (j : Int) := ⟨(1 + r).toNat, by omega⟩
  obtain ⟨i, rfl⟩ : ∃ i : Nat, t = (i : Int) := ⟨t.toNat, by omega⟩
  -- the relations
  refine lst_at hqo6 ?_
  have e1 : DL.cutD [.str o1, .str o2] none (some 1) = [.str o1] := rfl
  rw [e1]
  have g1 : (S6 ++ [Ob.lst [.str o1]])[S1.length]? = some (.lst ((nms.map (·.2)).map D.str)) := (Frm.app (W := []) _).get0 hq6
  refine mlst_at get_last (mlst_at g1 ⟨sz5 (by simp; omega), ?_⟩)
  refine lst_at get_last ?_
  rw [hj, cut_lo]
  refine iter_at get_last ?_
  have em : ([D.str o1] ++ (nms.map (·.2)).map D.str).take j = ((o1 :: nms.map (·.2)).take j).map D.str := by rw [List.map_take]; rfl
  rw [em]
  generalize hS7 : S6 ++ [Ob.lst [.str o1]] ++ [Ob.lst ([D.str o1] ++ (nms.map (·.2)).map D.str)] = S7
  have b7 : Frm [] S6 S7 := by rw [← hS7]; exact (Frm.app _).trans (.app _)
  clear hS7 g1
  have d7 := d6.frm0 (b7.trans (.app [Ob.lst (((o1 :: nms.map (·.2)).take j).map D.str)]))
  have hn6 := d6.lt
  have L7 := b7.len
  refine lc_drawG (S := S7 ++ [Ob.lst (((o1 :: nms.map (·.2)).take j).map D.str)]) (fun x d => ∃ nm v, x = .str nm ∧ d = placedD (nm, v) ∧ 1 ≤ v ∧ v ≤ 3) d7 (by simp; omega) (fun S' f => f.get get_last (by simp; omega)) (fun x hx Sa Ra fa da ka => ?_) fun ds S8 hds f8 d8 hq8 => ?_
  · obtain ⟨nm, _, rfl⟩ := List.mem_map.mp hx
    refine sp_any da (by decide) (lt8 (by decide)) fun v Sb v0 v1 fb db => ⟨sz5 (show 2 ≤ 100000 by decide), ?_⟩
    exact ka _ Sb ⟨nm, 1 + v, rfl, rfl, by omega, by omega⟩ fb db
  obtain ⟨ps, rfl, ep, hps⟩ := paired_names (Q := fun v => 1 ≤ v ∧ v ≤ 3) hds fun x d ⟨nm, v, e, ed, h⟩ => by
    injection e with e
    subst e
    exact ⟨v, ed, h⟩
  have G8 : Frm [n, m] S6 S8 := (b7.trans (.app _)).nil.trans f8
  have F8 := F6.trans G8
  have hq9 := G8.get hq6 n1
  have hqo9 := G8.get hqo6 no
  have lps : ps.length = j := by
    have := congrArg List.length ep
    simp at this
    omega
  have l8 := lt_of_get hq8
  have nq8 : (S7 ++ [Ob.lst (((o1 :: nms.map (·.2)).take j).map D.str)]).length ∉ [n, m] := by simp; omega
  -- the makers
  refine lst_at hqo9 ?_
  have e2 : DL.cutD [.str o1, .str o2] (some 1) none = [.str o2] := rfl
  rw [e2]
  have g2 : (S8 ++ [Ob.lst [.str o2]])[S1.length]? = some (.lst ((nms.map (·.2)).map D.str)) := (Frm.app (W := []) _).get0 hq9
  refine lst_at g2 ?_
  have e3 : DL.cutD ((nms.map (·.2)).map D.str) (some 6) none = ((nms.map (·.2)).map D.str).drop 6 := cut_hi (j := 6)
  rw [e3]
  have g3 : (S8 ++ [Ob.lst [.str o2]] ++ [Ob.lst (((nms.map (·.2)).map D.str).drop 6)])[S8.length]? = some (.lst [.str o2]) := (Frm.app (W := []) _).get0 get_last
  refine mlst_at g3 (mlst_at get_last ⟨sz5 (by simp; omega), ?_⟩)
  refine lst_at get_last ?_
  rw [cut_lo]
  refine iter_at get_last ?_
  have em2 : ([D.str o2] ++ ((nms.map (·.2)).map D.str).drop 6).take i = ((o2 :: (nms.map (·.2)).drop 6).take i).map D.str := by rw [List.map_take, List.map_cons, List.map_drop]; rfl
  rw [em2]
  generalize hS9 : S8 ++ [Ob.lst [.str o2]] ++ [Ob.lst (((nms.map (·.2)).map D.str).drop 6)] ++ [Ob.lst ([D.str o2] ++ ((nms.map (·.2)).map D.str).drop 6)] = S9
  have b9 : Frm [] S8 S9 := by rw [← hS9]; exact ((Frm.app _).trans (.app _)).trans (.app _)
  clear hS9 g2 g3
  have d9 := d8.frm0 (b9.trans (.app [Ob.lst (((o2 :: (nms.map (·.2)).drop 6).take i).map D.str)]))
  have hn8 := d8.lt
  have L9 := b9.len
  refine lc_drawG (S := S9 ++ [Ob.lst (((o2 :: (nms.map (·.2)).drop 6).take i).map D.str)]) (fun x d => ∃ nm v, x = .str nm ∧ d = placedD (nm, v) ∧ 0 ≤ v) d9 (by simp; omega) (fun S' f => f.get get_last (by simp; omega)) (fun x hx Sa Ra fa da ka => ?_) fun ds Sc hds fc dc hqc => ?_
  · obtain ⟨nm, _, rfl⟩ := List.mem_map.mp hx
    refine sp_any da (by decide) (lt8 (by decide)) fun v Sb v0 v1 fb db => ⟨sz5 (show 2 ≤ 100000 by decide), ?_⟩
    exact ka _ Sb ⟨nm, v, rfl, rfl, v0⟩ fb db
  obtain ⟨qs, rfl, eq, hqs⟩ := paired_names (Q := fun v => 0 ≤ v) hds fun x d ⟨nm, v, e, ed, h⟩ => by
    injection e with e
    subst e
    exact ⟨v, ed, h⟩
  have Gc : Frm [n, m] S8 Sc := (b9.trans (.app _)).nil.trans fc
  have Fc := F8.trans Gc
  have hqr := Gc.get hq8 nq8
  have lc := lt_of_get hqc
  have nqc : (S9 ++ [Ob.lst (((o2 :: (nms.map (·.2)).drop 6).take i).map D.str)]).length ∉ [n, m] := by simp; omega
  -- nothing wrong with them
  have nmA : ∀ x ∈ nms.map (·.2), Nm x := fun x hx => by
    obtain ⟨a, ha, rfl⟩ := List.mem_map.mp hx
    exact (ni a ha).2.nm (ni a ha).1
  have hRel : RelOk ps := ⟨fun p hp => ⟨?_, hps p hp⟩, by omega, by omega⟩
  · have hMk : MkOkk qs := ⟨fun p hp => ⟨?_, hqs p hp⟩, ?_⟩
    · -- the rules
      refine ⟨sz5 (show 5 ≤ 100000 by decide), ?_⟩
      have bd : Frm [] Sc (Sc ++ [Ob.lst [.int 0, .int 1, .int 3, .int 6, .int 14]]) := .app _
      have hnc := dc.lt
      refine sp_of (xs := [.int 0, .int 1, .int 3, .int 6, .int 14]) (dc.frm0 bd) get_last (by simp; omega) (by simp) (by simp) fun x Sd hx fd dd => ?_
      obtain ⟨v, rfl, hv⟩ : ∃ v : Nat, x = .int (v : Int) ∧ v ≤ 14 := by
        simp only [List.mem_cons, List.not_mem_nil, or_false] at hx
        rcases hx with rfl | rfl | rfl | rfl | rfl
        · exact ⟨0, rfl, by decide⟩
        · exact ⟨1, rfl, by decide⟩
        · exact ⟨3, rfl, by decide⟩
        · exact ⟨6, rfl, by decide⟩
        · exact ⟨14, rfl, by decide⟩
      have Gd : Frm [n, m] Sc Sd := bd.nil.trans fd
      refine ⟨⟨by omega, by omega⟩, ?_⟩
      refine lc_drawG (fun x d => ∃ u, d = ruleD u ∧ Ru ps qs u ∧ wt (ruleD u) ≤ 400) dd (by rw [range_len]; omega) (fun _ _ => trivial) (fun x hx Sa Ra fa da ka => ?_) fun ds Se hds fe de hqe => ?_
      · refine sp_drawn_rule da ((Gd.trans fa).get hqr nq8) ((Gd.trans fa).get hqc nqc) nq8 nqc hRel hMk fun u Sb hu hw fb db => ka _ Sb ⟨u, rfl, hu, hw⟩ fb db
      obtain ⟨us, rfl, hus, hul⟩ := paired_map (f := ruleD) (Q := fun u => Ru ps qs u ∧ wt (ruleD u) ≤ 400) hds fun x _ d ⟨u, e, h⟩ => ⟨u, e, h⟩
      rw [range_len] at hul
      have Ge := Gd.trans fe
      have hnd := dd.lt
      obtain ⟨rels, mks, k1, k2, kw⟩ := kit_ok nl ni nn ho (by omega) (by omega) (by omega) ep eq (fun p hp => (hps p hp).1) hqs (fun u hu => (hus u hu).1) (fun u hu => (hus u hu).2) (by omega)
      refine sp_law_kit (Ge.get hqr nq8) (Ge.get hqc nqc) hqe (by omega) (hMk.l1) fun q Sf ff kf lq => ?_
      rw [k1, k2] at kf
      have hne := de.lt
      exact k rels mks us q Sf kw (Fc.trans (Ge.trans ff.nil)) (de.frm0 ff) kf (by simp; omega)
    · have : p.1 ∈ (o2 :: (nms.map (·.2)).drop 6).take i := by rw [← eq]; exact List.mem_map_of_mem hp
      rcases List.mem_cons.mp (List.mem_of_mem_take this) with e | e
      · rw [e]; exact ho.n2
      · exact nmA _ (List.mem_of_mem_drop e)
    · have := congrArg List.length eq
      simp at this
      omega
  · have : p.1 ∈ (o1 :: nms.map (·.2)).take j := by rw [← ep]; exact List.mem_map_of_mem hp
    rcases List.mem_cons.mp (List.mem_of_mem_take this) with e | e
    · rw [e]; exact ho.n1
    · exact nmA _ e
/-! ### a turn of the law -/
abbrev qD (q : Int × Int) : D := .tup [.int q.1, .int q.2]
abbrev pL : List (Int × Int) := [(0, 1), (1, 1), (2, 1), (3, 1), (5, 1), (1, 2), (3, 2), (2, 3), (7, 4), (11, 12), (40, 1)]
theorem pL_ok : ∀ q ∈ pL, priceB (qD q) = true := by
  have h : ∀ q ∈ pL, (decide (q.2 ≥ 1) && decide (gcdZ q.1 q.2 = 1) && decide (q.1 ≥ 0)) = true := by decide +kernel
  exact fun q hq => h q hq
theorem sp_law_price {n m : Nat} (d : Deal n m S) (k : ∀ q S', q ∈ pL → Frm [n, m] S S' → Deal n m S' → R (qD q) S') : Cal w_law_price [.ref n] S R Rx := by
  obtain ⟨hn, hm⟩ := d.lt
  refine .mk ?_
  rw [w_law_price_eq]
  have z2 : 2 ≤ sizeLine := by decide
  have z11 : 11 ≤ sizeLine := by decide
  refine ⟨z2, z2, z2, z2, z2, z2, z2, z2, z2, z2, z2, z11, ?_⟩
  have f0 : Frm [] S (S ++ [Ob.lst (pL.map qD)]) := .app _
  refine sp_of (xs := pL.map qD) (d.frm0 f0) get_last (by simp; omega) (by decide) (by decide) fun x S' hx f d' => ?_
  obtain ⟨q, hq, rfl⟩ := List.mem_map.mp hx
  exact k q S' hq (f0.nil.trans f) d'
theorem sp_law_book {q : Nat} {r m u : D} (h : KitAt q r m u S) (k : ∀ S', Frm [] S S' → BookAt S.length r m u S' → R (.ref S.length) S') : Cal w_law_book [.ref q] S R Rx := by
  refine .mk ?_
  rw [w_law_book_eq]
  exact h.rel (h.mak (h.rul (mk_book k)))
theorem sh_q {q : Int × Int} : Sh 1 (qD q) := sh_tup fun x hx => by
  simp only [List.mem_cons, List.not_mem_nil, or_false] at hx
  rcases hx with rfl | rfl <;> exact sh_int
theorem wt_qD {q : Int × Int} : wt (qD q) = 3 := by rw [wt_tup, wts_cons, wts_cons, wts_nil, wt_i, wt_i]
/-- what stands in the store while a turn asks -/
structure Cx6 (n m q b g : Nat) (rels mks : List (Str × Int)) (us : List RuT) (qs : List (Int × Int)) (c p : Nat) (S : Sto) : Prop where
  d : Deal n m S
  prs : Prs [n, m] p c S
  kit : KitAt q (termD rels) (termD mks) (rulesD us) S
  bk : BookAt b (termD rels) (termD mks) (rulesD us) S
  pc : PricedAt g (.ref b) (.tup (qs.map qD)) S
section
variable {n m q b g c p : Nat} {rels mks : List (Str × Int)} {us : List RuT} {qs : List (Int × Int)}
theorem Cx6.frm {S S' : Sto} (h : Cx6 n m q b g rels mks us qs c p S) (f : Frm [] S S') : Cx6 n m q b g rels mks us qs c p S' :=
  ⟨h.d.frm0 f, h.prs.frm f.nil, h.kit.frm f (by simp), h.bk.frm f, h.pc.frm f⟩
theorem Cx6.p_ {S : Sto} (h : Cx6 n m q b g rels mks us qs c p S) : ∃ ps, S[p]? = some (.lst ps) ∧ (∀ x ∈ ps, Good x) ∧ ps.length ≤ c := h.prs.ex
theorem Cx6.mono {S : Sto} {c' : Nat} (h : Cx6 n m q b g rels mks us qs c p S) (l : c ≤ c') : Cx6 n m q b g rels mks us qs c' p S := ⟨h.d, h.prs.mono l, h.kit, h.bk, h.pc⟩
/-- pairs = pairs + [..] -/
theorem Cx6.add {S : Sto} {xs : List D} (h : Cx6 n m q b g rels mks us qs c p S) (hg : ∀ x ∈ xs, Good x) (hc : c + xs.length ≤ 100000) (k : ∀ p' S', Frm [] S S' → Cx6 n m q b g rels mks us qs (c + xs.length) p' S' → S.length ≤ p' → R (.ref p') S') : addD (.ref p) (.ref S.length) (S ++ [.lst xs]) R := by
  obtain ⟨ps, h1, h2, h3⟩ := h.p_
  have e1 : (S ++ [Ob.lst xs])[p]? = some (.lst ps) := (Frm.app (W := []) _).get0 h1
  have hs : 100000 < sizeLine := by decide
  refine mlst_at e1 (mlst_at get_last ⟨by omega, ?_⟩)
  have f : Frm [] S (S ++ [Ob.lst xs] ++ [Ob.lst (ps ++ xs)]) := (Frm.app _).trans (.app _)
  have hf := h.frm f
  have hl := h.d.lt
  refine k _ _ f ⟨hf.d, ⟨by simp; omega, ps ++ xs, get_last, fun x hx => ?_, by simp; omega⟩, hf.kit, hf.bk, hf.pc⟩ (by simp)
  rcases List.mem_append.mp hx with h | h
  · exact h2 x h
  · exact hg x h
/-- all but the pairs stays -/
structure But (p : Nat) (S S' : Sto) : Prop where
  at_ : ∀ i, i ≠ p → S'[i]? = S[i]?
  len : S'.length = S.length
theorem Cx6.app {S : Sto} {x : D} (h : Cx6 n m q b g rels mks us qs c p S) (hg : Good x) (hc : c < 100000) (k : ∀ S', But p S S' → Cx6 n m q b g rels mks us qs (c + 1) p S' → R .non S') : appD x p S R := by
  obtain ⟨ps, h1, h2, h3⟩ := h.p_
  have lp := lt_of_get h1
  have hs : 100000 < sizeLine := by decide
  have hn : p ∉ [n, m] := h.prs.nW
  simp only [List.mem_cons, List.not_mem_nil, or_false, not_or] at hn
  have nk : ∀ i o, S[i]? = some o → (∀ xs, o ≠ .lst xs) → i ≠ p := fun i o h ho e => by
    rw [e, h1] at h
    cases h
    exact ho _ rfl
  refine mlst_at h1 ⟨by omega, k _ ⟨fun i hi => List.getElem?_set_ne (Ne.symm hi), by simp⟩ ⟨h.d.set hn.1 hn.2, ⟨h.prs.nW, ps ++ [x], List.getElem?_set_self lp, fun y hy => ?_, by simp; omega⟩, ?_, ⟨?_⟩, ⟨?_⟩⟩⟩
  · rcases List.mem_append.mp hy with h | h
    · exact h2 y h
    · rw [List.mem_singleton.mp h]; exact hg
  · obtain ⟨ep, kvs, k1, k2⟩ := h.kit
    exact ⟨ep, kvs, by rw [List.getElem?_set_ne (Ne.symm (nk q _ k1 (fun _ h => nomatch h)))]; exact k1, k2⟩
  · rw [List.getElem?_set_ne (Ne.symm (nk b _ h.bk.at_ (fun _ h => nomatch h)))]; exact h.bk.at_
  · rw [List.getElem?_set_ne (Ne.symm (nk g _ h.pc.at_ (fun _ h => nomatch h)))]; exact h.pc.at_
end
/-! #### good pairs -/
theorem good_said {o : Outc} : Good (pr (saidD o)) := by
  cases o with
  | none =>
    refine ⟨_, rfl, pl_tup.mpr (pls_cons.mpr ⟨pl_str, pls_cons.mpr ⟨pl_non, pls_nil⟩⟩), ?_⟩
    show wt (.tup [.str "told", .non]) ≤ 100000
    rw [wt_tup, wts_cons, wts_cons, wts_nil, wt_s, wt]
    · decide
    · exact fun _ h => nomatch h
  | some q =>
    obtain ⟨w, a⟩ := q
    refine ⟨_, rfl, pl_tup.mpr (pls_cons.mpr ⟨pl_str, pls_cons.mpr ⟨pl_str, pls_cons.mpr ⟨pl_int, pls_nil⟩⟩⟩), ?_⟩
    show wt (.tup [.str "refused", .str w, .int a]) ≤ 100000
    rw [wt_tup, wts_cons, wts_cons, wts_cons, wts_nil, wt_s, wt_s, wt_i]
    decide
theorem wt_b {k : Bool} : wt (.bl k) = 1 := by rw [wt]; exact fun _ h => nomatch h
theorem good_bl {k : Bool} : Good (pr (.bl k)) := ⟨_, rfl, pl_bl, by rw [wt_b]; decide⟩
theorem good_parts {rels mks : List (Str × Int)} {us : List RuT} {ps : List D} (h : KitW rels mks us) (hp : ∀ d ∈ ps, Pl d ∧ wt d ≤ 3) (hl : ps.length ≤ 1000) : Good (pr (.tup [termD rels, termD mks, rulesD us, .tup ps])) := by
  have s1 := termD_sh (ps := rels) fun p hp => (h.ok.rn p hp).1
  have s2 := termD_sh (ps := mks) fun p hp => (h.ok.mn p hp).1
  refine ⟨_, rfl, pl_tup.mpr (pls_cons.mpr ⟨s1.pl, pls_cons.mpr ⟨s2.pl, pls_cons.mpr ⟨pl_tup.mpr (pls_all fun x hx => ?_), pls_cons.mpr ⟨pl_tup.mpr (pls_all fun x hx => (hp x hx).1), pls_nil⟩⟩⟩⟩), ?_⟩
  · obtain ⟨u, hu, rfl⟩ := List.mem_map.mp hx
    exact (h.ok.ru u hu).sh.pl
  · have w1 := wts_le (b := 3) (xs := rels.map placedD) fun x hx => by
      obtain ⟨p, _, rfl⟩ := List.mem_map.mp hx
      exact Nat.le_of_eq wt_placed
    have w2 := wts_le (b := 3) (xs := mks.map placedD) fun x hx => by
      obtain ⟨p, _, rfl⟩ := List.mem_map.mp hx
      exact Nat.le_of_eq wt_placed
    have w3 := wts_le (b := 400) (xs := us.map ruleD) fun x hx => by
      obtain ⟨u, hu, rfl⟩ := List.mem_map.mp hx
      exact h.w u hu
    have w4 := wts_le (b := 3) (xs := ps) fun x hx => (hp x hx).2
    rw [List.length_map] at w1 w2 w3
    have := h.u14
    have := h.r6
    have := h.m4
    unfold termD rulesD
    rw [wt_tup, wts_cons, wts_cons, wts_cons, wts_cons, wts_nil, wt_tup, wt_tup, wt_tup, wt_tup]
    omega
/-! ### what is asked in a turn -/
section
variable {n m q b g c p : Nat} {rels mks : List (Str × Int)} {us : List RuT} {qs : List (Int × Int)}
theorem nb_good {S : Sto} (kw : KitW rels mks us) (h : BookAt b (termD rels) (termD mks) (rulesD us) S) : NB (.ref b) S none := nb_ok h fun R Rx k => sp_fault_ok kw.ok h k
theorem ok_price {x : D} (hx : x ∈ qs.map qD) (hq : ∀ z ∈ qs, z ∈ pL) : ∀ S (R : RD), (∀ S', Frm [] S S' → R (.bl true) S') → Cal w_is_price [x] S R noX := fun S R k => by
  obtain ⟨z, hz, rfl⟩ := List.mem_map.mp hx
  refine sp_is_price (fun y hy => ?_) ?_
  · simp only [List.mem_cons, List.not_mem_nil, or_false] at hy
    rcases hy with rfl | rfl <;> trivial
  · rw [pL_ok z (hq z hz)]
    exact k S .refl
/-- a priced book that is one -/
theorem np_good {S : Sto} {g' : Nat} {qs' : List (Int × Int)} (kw : KitW rels mks us) (hb : BookAt b (termD rels) (termD mks) (rulesD us) S) (hg : PricedAt g' (.ref b) (.tup (qs'.map qD)) S) (hq : ∀ z ∈ qs', z ∈ pL) (hl : qs'.length = us.length) : NP (.ref g') S none := by
  refine np_start (o := none) hg hb (nb_good kw hb) (by rw [List.length_map, List.length_map]; exact hl) (fun S1 f1 R Rx k => ?_) trivial
  exact sp_first_ok (f := "is_price") (sp := w_is_price) rfl (fun x hx => ok_price hx hq) k
/-- a value that is no price -/
def BadP (S : Sto) (v : D) : Prop := ∀ S' (R : RD), Frm [] S S' → (∀ S'', Frm [] S' S'' → R (.bl false) S'') → Cal w_is_price [v] S' R noX
theorem np_bent {S : Sto} {g' j : Nat} {v : D} {rest : List D} (kw : KitW rels mks us) (hb : BookAt b (termD rels) (termD mks) (rulesD us) S) (hg : PricedAt g' (.ref b) (.tup ((qs.map qD).take j ++ v :: rest)) S) (hq : ∀ z ∈ qs, z ∈ pL) (hj : j < qs.length) (hl : j + 1 + rest.length = us.length) (hv : BadP S v) : NP (.ref g') S (some ("price", (j : Int))) := by
  have hlen : ((qs.map qD).take j).length = j := by simp; omega
  refine np_start (o := some ("price", (j : Int))) hg hb (nb_good kw hb) (by rw [List.length_append, hlen, List.length_map, List.length_cons]; omega) (fun S1 f1 R Rx k => ?_) ⟨rfl, by omega⟩
  refine sp_first_bad (f := "is_price") (sp := w_is_price) rfl (fun x hx => ok_price (List.mem_of_mem_take hx) hq) (fun S' R f k => hv S' R (f1.trans f) k) fun S' f => ?_
  rw [hlen]
  exact k S' f
theorem bad_nr {S : Sto} {v : D} (h2 : Nr2 v) (h : priceB v = false) : BadP S v := fun S' R f k => by
  refine sp_is_price h2 ?_
  rw [h]
  exact k S' .refl
theorem bad_lst {S : Sto} {l : Nat} {xs : List D} (h : S[l]? = some (.lst xs)) : BadP S (.ref l) := fun S' R f k => sp_is_price_ref (f.get0 h) (k S' .refl)
theorem BadP.frm {S S' : Sto} {v : D} (h : BadP S v) (f : Frm [] S S') : BadP S' v := fun S2 R f2 k => h S2 R (f.trans f2) k
/-! #### said, told -/
/-- one more pair: (said(PricedBook(b, p), False), due) -/
theorem say_priced {S : Sto} {bD pD : D} {o : Outc} {R : RD} {Rx : RX} (hn : ∀ g' S', Frm [] S S' → PricedAt g' bD pD S' → NP (.ref g') S' o) (k : ∀ S', Frm [] S S' → R (saidD o) S') :
    Cal w_PricedBook_init [.ref S.length, bD, pD] (S ++ [.ins "PricedBook" []]) (fun d S2 => d = .non ∧ Cal w_law_said [.ref S.length, .bl false] S2 R Rx) noX :=
  mk_priced (R := fun d S2 => Cal w_law_said [d, .bl false] S2 R Rx) fun S' f h => sp_said (hn _ S' f h) fun S'' f2 => k S'' (f.trans f2)
end
/-! ### bent prices -/
theorem mk_pr {b p : D} {K : Sto → Prop} (k : ∀ S', Frm [] S S' → PricedAt S.length b p S' → K S') : Cal w_PricedBook_init [.ref S.length, b, p] (S ++ [.ins "PricedBook" []]) (fun d S2 => d = .non ∧ K S2) noX := mk_priced (R := fun _ S2 => K S2) k
theorem mk_bk {r m u : D} {K : Sto → Prop} (k : ∀ S', Frm [] S S' → BookAt S.length r m u S' → K S') : Cal w_Book_init [.ref S.length, r, m, u] (S ++ [.ins "Book" []]) (fun d S2 => d = .non ∧ K S2) noX := mk_book (R := fun _ S2 => K S2) k
abbrev rho (n p q b g : Nat) (dueD : D) (qs : List (Int × Int)) (z : Int × Int) (many : Nat) (a0 a3 a6 a7 a8 a14 a15 a16 a17 : Option D) : Ev :=
  [a0, some (.ref n), some (.ref p), a3, some (.ref q), some dueD, a6, a7, a8, some (.tup (qs.map qD)), some (.ref b), some (.ref g), some (qD z), some (.int (many : Int)), a14, a15, a16, a17]
/-- a value that is no price, and stays so while pairs are told -/
inductive V8 (p : Nat) (S : Sto) : D → Prop
  | nr {v : D} (h2 : Nr2 v) (h : priceB v = false) : V8 p S v
  | lst (l : Nat) (xs : List D) (hl : l ≠ p) (h : S[l]? = some (.lst xs)) : V8 p S (.ref l)
theorem V8.bad {p : Nat} {S : Sto} {v : D} (h : V8 p S v) : BadP S v := by
  cases h with
  | nr h2 h => exact bad_nr h2 h
  | lst l xs hl h => exact bad_lst h
theorem V8.frm {p : Nat} {S S' : Sto} {v : D} (h : V8 p S v) (f : Frm [] S S') : V8 p S' v := by
  cases h with
  | nr h2 h => exact .nr h2 h
  | lst l xs hl h => exact .lst l xs hl (f.get0 h)
theorem V8.but {p : Nat} {S S' : Sto} {v : D} (h : V8 p S v) (f : But p S S') : V8 p S' v := by
  cases h with
  | nr h2 h => exact .nr h2 h
  | lst l xs hl h => exact .lst l xs hl (by rw [f.at_ l hl]; exact h)
/-- what stands, and another list -/
structure Stay (p : Nat) (S S' : Sto) : Prop where
  at_ : ∀ i o, i ≠ p → S[i]? = some o → S'[i]? = some o
  len : S.length ≤ S'.length
theorem Stay.refl {p : Nat} : Stay p S S := ⟨fun _ _ _ h => h, Nat.le_refl _⟩
theorem Stay.trans {p : Nat} {S1 S2 S3 : Sto} (a : Stay p S1 S2) (b : Stay p S2 S3) : Stay p S1 S3 := ⟨fun i o h1 h2 => b.at_ i o h1 (a.at_ i o h1 h2), Nat.le_trans a.len b.len⟩
theorem Stay.frm {p : Nat} {S S' : Sto} (f : Frm [] S S') : Stay p S S' := ⟨fun _ _ _ h => f.get0 h, f.len⟩
theorem Stay.but {p : Nat} {S S' : Sto} (f : But p S S') : Stay p S S' := ⟨fun i o h1 h2 => by rw [f.at_ i h1]; exact h2, by rw [f.len]; exact Nat.le_refl _⟩
theorem V8.stay {p : Nat} {S S' : Sto} {v : D} (h : V8 p S v) (f : Stay p S S') : V8 p S' v := by
  cases h with
  | nr h2 h => exact .nr h2 h
  | lst l xs hl h => exact .lst l xs hl (f.at_ l _ hl h)
section
variable {n m q b g c p : Nat} {rels mks : List (Str × Int)} {us : List RuT} {qs : List (Int × Int)} {z : Int × Int} {dueD : D} {E : DEnds}
theorem flat_one {x : D} : ∀ j : Nat, (List.replicate j [x]).flatten = List.replicate j x
  | 0 => rfl
  | j + 1 => by rw [List.replicate_succ, List.flatten_cons, flat_one j]; rfl
theorem st_f1 {j : Nat} {v : D} {a0 a3 a8 a14 a15 a16 a17 : Option D} (kw : KitW rels mks us) (hq : ∀ z ∈ qs, z ∈ pL) (hl : qs.length = us.length) (hj : j < qs.length) (h : Cx6 n m q b g rels mks us qs c p S) (hv : V8 p S v) (hc : c + 2 ≤ 100000)
    (k : ∀ S' a16', Stay p S S' → Cx6 n m q b g rels mks us qs (c + 2) p S' → E.nx (rho n p q b g dueD qs z us.length a0 a3 (some (.int (j : Int))) (some v) a8 a14 a15 a16' a17) S') :
    f1_law E (rho n p q b g dueD qs z us.length a0 a3 (some (.int (j : Int))) (some v) a8 a14 a15 a16 a17) S := by
  have u14 := kw.u14
  have e1 := cut_lo (xs := qs.map qD) (j := j)
  have e2 := cut_hi (xs := qs.map qD) (j := j + 1)
  rw [show ((j + 1 : Nat) : Int) = (j : Int) + 1 by omega] at e2
  refine ⟨sz5 (show 1 ≤ 100000 by decide), ?_⟩
  show (DL.cutD (qs.map qD) none (some (j : Int))).length + [v].length ≤ sizeLine ∧ _
  rw [e1]
  refine ⟨sz5 (by simp; omega), ?_⟩
  show ((qs.map qD).take j ++ [v]).length + (DL.cutD (qs.map qD) (some ((j : Int) + 1)) none).length ≤ sizeLine ∧ _
  rw [e2]
  refine ⟨sz5 (by simp; omega), ?_⟩
  have eb : (qs.map qD).take j ++ [v] ++ (qs.map qD).drop (j + 1) = (qs.map qD).take j ++ v :: (qs.map qD).drop (j + 1) := by simp
  rw [eb]
  obtain ⟨ps0, hp0, _⟩ := h.p_
  refine ⟨mlst_at hp0 trivial, ?_⟩
  have lt := Nat.le_of_lt hj
  refine mk_pr fun S1 f1 g1 => ?_
  refine sp_said (o := some ("price", (j : Int))) (np_bent (rest := (qs.map qD).drop (j + 1)) kw (h.frm f1).bk g1 hq hj (by rw [List.length_drop, List.length_map]; omega) (hv.frm f1).bad) fun S2 f2 => ?_
  refine ⟨sz5 (show 3 ≤ 100000 by decide), sz5 (show 2 ≤ 100000 by decide), ?_⟩
  have h2 := (h.frm f1).frm f2
  refine h2.app (good_said (o := some ("price", (j : Int)))) (by omega) fun S3 b3 h3 => ?_
  have s3 : Stay p S S3 := (Stay.frm (f1.trans f2)).trans (.but b3)
  obtain ⟨ps3, hp3, _⟩ := h3.p_
  refine ⟨mlst_at hp3 trivial, ?_⟩
  have e3 : DL.cutD ((qs.map qD).take j ++ v :: (qs.map qD).drop (j + 1)) none (some ((j : Int) + 1)) = (qs.map qD).take j ++ [v] := by
    have := cut_lo (xs := (qs.map qD).take j ++ v :: (qs.map qD).drop (j + 1)) (j := j + 1)
    rw [show ((j + 1 : Nat) : Int) = (j : Int) + 1 by omega] at this
    rw [this, List.take_append, List.take_of_length_le (by simp; omega)]
    have : j + 1 - ((qs.map qD).take j).length = 1 := by simp; omega
    rw [this]
    rfl
  refine ⟨sz5 (show 1 ≤ 100000 by decide), ⟨by omega, by omega, show 1 ≤ 1000 by decide⟩, ?_⟩
  have e4 : (List.replicate ((us.length : Int) - (j : Int) - 1).toNat [D.non]).flatten = List.replicate (us.length - j - 1) D.non := by
    rw [show ((us.length : Int) - (j : Int) - 1).toNat = us.length - j - 1 by omega]
    exact flat_one _
  show (DL.cutD ((qs.map qD).take j ++ v :: (qs.map qD).drop (j + 1)) none (some ((j : Int) + 1))).length + (List.replicate ((us.length : Int) - (j : Int) - 1).toNat [D.non]).flatten.length ≤ sizeLine ∧ _
  rw [e3, e4]
  refine ⟨sz5 (by simp; omega), ?_⟩
  have e5 : (qs.map qD).take j ++ [v] ++ List.replicate (us.length - j - 1) D.non = (qs.map qD).take j ++ v :: List.replicate (us.length - j - 1) D.non := by simp
  rw [e5]
  refine mk_pr fun S4 f4 g4 => ?_
  refine sp_said (o := some ("price", (j : Int))) (np_bent (rest := List.replicate (us.length - j - 1) D.non) kw (h3.frm f4).bk g4 hq hj (by rw [List.length_replicate]; omega) ((hv.stay s3).frm f4).bad) fun S5 f5 => ?_
  refine ⟨sz5 (show 3 ≤ 100000 by decide), sz5 (show 2 ≤ 100000 by decide), ?_⟩
  have h5 := (h3.frm f4).frm f5
  refine h5.app (good_said (o := some ("price", (j : Int)))) (by omega) fun S6 b6 h6 => ?_
  exact k S6 _ (s3.trans ((Stay.frm (f4.trans f5)).trans (.but b6))) h6
/-- the values in turn -/
theorem lp_f1 {j lv : Nat} {vals : List D} {a0 a3 a7 a8 a14 a15 a16 a17 : Option D} (kw : KitW rels mks us) (hq : ∀ z ∈ qs, z ∈ pL) (hl : qs.length = us.length) (hj : j < qs.length) (h : Cx6 n m q b g rels mks us qs c p S) (hlv : S[lv]? = some (.lst vals)) (hne : lv ≠ p) (hv : ∀ v ∈ vals, V8 p S v) (hc : c + 2 * vals.length ≤ 100000)
    (k : ∀ S' a7' a16', Stay p S S' → Cx6 n m q b g rels mks us qs (c + 2 * vals.length) p S' → E.nx (rho n p q b g dueD qs z us.length a0 a3 (some (.int (j : Int))) a7' a8 a14 a15 a16' a17) S') :
    forW (fun S' => S'[lv]? = some (.lst vals)) (gNm 7) f1_law E vals (rho n p q b g dueD qs z us.length a0 a3 (some (.int (j : Int))) a7 a8 a14 a15 a16 a17) S := by
  refine for_ind (fun i ρ S' => Stay p S S' ∧ i ≤ vals.length ∧ Cx6 n m q b g rels mks us qs (c + 2 * i) p S' ∧ ∃ a7' a16', ρ = rho n p q b g dueD qs z us.length a0 a3 (some (.int (j : Int))) a7' a8 a14 a15 a16' a17) vals (fun i ρ S' hh => hh.1.at_ lv _ hne hlv) ?_ ⟨.refl, Nat.zero_le _, h, a7, a16, rfl⟩ fun ρ S' ⟨s, _, hx, a7', a16', e⟩ => by
    subst e
    exact k S' a7' a16' s hx
  rintro i v ρ S' E' hi ⟨s, hle, hx, a7', a16', rfl⟩ _ _ _ kk _
  have hil := lt_of_get hi
  refine st_f1 (E := E') kw hq hl hj hx ((hv v (List.mem_of_getElem? hi)).stay s) (by omega) fun S2 a16'' s2 h2 => kk _ S2 ⟨s.trans s2, hil, ?_, some v, a16'', rfl⟩
  rw [show c + 2 * (i + 1) = c + 2 * i + 2 by omega]
  exact h2
end
/-! ### another price at one rule -/
section
variable {n m q b g c p : Nat} {rels mks : List (Str × Int)} {us : List RuT} {qs : List (Int × Int)} {z : Int × Int} {E : DEnds}
abbrev dueD (rels mks : List (Str × Int)) (us : List RuT) : D := .tup [termD rels, termD mks, rulesD us]
theorem parts_sh (kw : KitW rels mks us) : Sh 8 (termD rels) ∧ Sh 8 (termD mks) ∧ Sh 8 (rulesD us) := by
  refine ⟨(termD_sh fun p hp => (kw.ok.rn p hp).1).mono (by decide), (termD_sh fun p hp => (kw.ok.mn p hp).1).mono (by decide), Sh.mono (sh_tup (n := 6) fun x hx => ?_) (by decide)⟩
  obtain ⟨u, hu, rfl⟩ := List.mem_map.mp hx
  exact (kw.ok.ru u hu).sh
theorem prices_sh {ds : List D} (h : ∀ d ∈ ds, ∃ q, d = qD q) : Sh 8 (.tup ds) := Sh.mono (sh_tup (n := 1) fun x hx => by
  obtain ⟨q, rfl⟩ := h x hx
  exact sh_q) (by decide)
theorem prices_pl {ds : List D} (h : ∀ d ∈ ds, ∃ q, d = qD q) : ∀ d ∈ ds, Pl d ∧ wt d ≤ 3 := fun d hd => by
  obtain ⟨q, rfl⟩ := h d hd
  exact ⟨sh_q.pl, Nat.le_of_eq wt_qD⟩
theorem qs_q : ∀ d ∈ qs.map qD, ∃ q, d = qD q := fun d hd => by
  obtain ⟨q, _, rfl⟩ := List.mem_map.mp hd
  exact ⟨q, rfl⟩
theorem late_q {j : Nat} : ∀ d ∈ (qs.map qD).take j ++ [qD z] ++ (qs.map qD).drop (j + 1), ∃ q, d = qD q := fun d hd => by
  rcases List.mem_append.mp hd with h | h
  · rcases List.mem_append.mp h with h | h
    · exact qs_q d (List.mem_of_mem_take h)
    · exact ⟨z, List.mem_singleton.mp h⟩
  · exact qs_q d (List.mem_of_mem_drop h)
theorem st_f2 {j : Nat} {a0 a3 a7 a8 a14 a15 a16 a17 : Option D} (kw : KitW rels mks us) (hq : ∀ z ∈ qs, z ∈ pL) (hl : qs.length = us.length) (hj : j < qs.length) (h : Cx6 n m q b g rels mks us qs c p S) (hc : c + 18 ≤ 100000)
    (k : ∀ p' S' a7' a14' a16', Cx6 n m q b g rels mks us qs (c + 18) p' S' → E.nx (rho n p' q b g (dueD rels mks us) qs z us.length a0 a3 (some (.int (j : Int))) a7' a8 a14' a15 a16' a17) S') :
    f2_law E (rho n p q b g (dueD rels mks us) qs z us.length a0 a3 (some (.int (j : Int))) a7 a8 a14 a15 a16 a17) S := by
  have u14 := kw.u14
  have e1 := cut_lo (xs := qs.map qD) (j := j)
  have e2 := cut_hi (xs := qs.map qD) (j := j + 1)
  rw [show ((j + 1 : Nat) : Int) = (j : Int) + 1 by omega] at e2
  refine ⟨sz5 (show 1 ≤ 100000 by decide), ?_⟩
  show (DL.cutD (qs.map qD) none (some (j : Int))).length + [qD z].length ≤ sizeLine ∧ _
  rw [e1]
  refine ⟨sz5 (by simp; omega), ?_⟩
  show ((qs.map qD).take j ++ [qD z]).length + (DL.cutD (qs.map qD) (some ((j : Int) + 1)) none).length ≤ sizeLine ∧ _
  rw [e2]
  refine ⟨sz5 (by simp; omega), ?_⟩
  obtain ⟨s1, s2, s3⟩ := parts_sh kw
  have sl := prices_sh (late_q (qs := qs) (z := z) (j := j))
  have sq := prices_sh (qs_q (qs := qs))
  have gl : Good (pr (.tup [termD rels, termD mks, rulesD us, .tup ((qs.map qD).take j ++ [qD z] ++ (qs.map qD).drop (j + 1))])) := good_parts kw (prices_pl late_q) (by simp; omega)
  generalize hL : (qs.map qD).take j ++ [qD z] ++ (qs.map qD).drop (j + 1) = late at sl gl ⊢
  refine sp_repriced h.pc (by simp; omega) fun g1 S1 f1 p1 => ?_
  rw [hL] at p1
  have h1 := h.frm f1
  refine sp_parts_told p1 h1.bk ?_
  refine ⟨sz5 (show 1 ≤ 100000 by decide), sz5 (show 4 ≤ 100000 by decide), sz5 (show 2 ≤ 100000 by decide), ?_⟩
  refine sp_repriced (j := j) (x := qD z) h1.pc (by simp; omega) fun g2 S2 f2 p2 => ?_
  rw [hL] at p2
  have h2 := h1.frm f2
  refine ownAt.mk g2 _ rfl p2.at_ (refAt.ins "PricedBook" _ h2.pc.at_ (by simp) trivial) ?_
  refine sp_priced_eq (x := 8) p2 h2.pc h2.bk h2.bk s1 s2 s3 (by decide) ⟨_, rfl⟩ ⟨_, rfl⟩ ⟨_, rfl⟩ sl sq ?_
  refine eq_tup sl sq (by decide) (by decide) ?_
  refine ⟨sz5 (show 2 ≤ 100000 by decide), sz5 (show 2 ≤ 100000 by decide), ?_⟩
  refine h2.add (xs := [pr (.tup [termD rels, termD mks, rulesD us, .tup late]), pr (.bl (PyData.eqv (toP (.tup late)) (toP (.tup (qs.map qD)))))]) (fun x hx => ?_) (by simp; omega) fun p' S3 f3 h3 l3 => ?_
  · simp only [List.mem_cons, List.not_mem_nil, or_false] at hx
    rcases hx with rfl | rfl
    · exact gl
    · exact good_bl
  -- the values
  have z2 : 2 ≤ sizeLine := by decide
  refine ⟨sz5 (show 1 ≤ 100000 by decide), z2, z2, z2, z2, sz5 (show 8 ≤ 100000 by decide), ?_⟩
  have fv : Frm [] S3 (S3 ++ [Ob.lst [.int 1, .int 1]]) := .app _
  obtain ⟨ps3, hp3, _⟩ := h3.p_
  have lp3 := lt_of_get hp3
  refine iter_at get_last ?_
  have fw : Frm [] S3 (S3 ++ [Ob.lst [.int 1, .int 1]] ++ [Ob.lst [.non, .int 0, .tup [.int 1], .tup [.int 2, .int 4], .tup [.int (0 - 1), .int 1], .ref S3.length, .str "1", .tup [.bl true, .int 1]]]) := fv.trans (.app _)
  have gr : (S3 ++ [Ob.lst [.int 1, .int 1]] ++ [Ob.lst [.non, .int 0, .tup [.int 1], .tup [.int 2, .int 4], .tup [.int (0 - 1), .int 1], .ref S3.length, .str "1", .tup [.bl true, .int 1]]])[S3.length]? = some (.lst [.int 1, .int 1]) := (Frm.app (W := []) _).get0 get_last
  refine lp_f1 kw hq hl hj (h3.frm fw) get_last (by simp; omega) (fun v hv => ?_) (by simp; omega) fun S4 a7' a16' _ h4 => ?_
  · simp only [List.mem_cons, List.not_mem_nil, or_false] at hv
    rcases hv with rfl | rfl | rfl | rfl | rfl | rfl | rfl | rfl
    · exact .nr trivial rfl
    · exact .nr trivial rfl
    · exact .nr (nr2_of rfl) rfl
    · exact .nr (nr2_of rfl) (by decide +kernel)
    · exact .nr (nr2_of rfl) (by decide +kernel)
    · exact .lst _ _ (by omega) gr
    · exact .nr trivial rfl
    · exact .nr (nr2_of rfl) rfl
  · refine k p' S4 a7' _ a16' ?_
    simp only [List.length_cons, List.length_nil] at h4
    rw [show c + 18 = c + (0 + 1 + 1) + 2 * (0 + 1 + 1 + 1 + 1 + 1 + 1 + 1 + 1) by omega]
    exact h4
theorem lp_f2 {a0 a3 a6 a7 a8 a14 a15 a16 a17 : Option D} (kw : KitW rels mks us) (hq : ∀ z ∈ qs, z ∈ pL) (hl : qs.length = us.length) (h : Cx6 n m q b g rels mks us qs c p S) (hc : c + 72 ≤ 100000)
    (k : ∀ p' S' a6' a7' a14' a16', Cx6 n m q b g rels mks us qs (c + 72) p' S' → E.nx (rho n p' q b g (dueD rels mks us) qs z us.length a0 a3 a6' a7' a8 a14' a15 a16' a17) S') :
    forW noG (gNm 6) f2_law E (rangeD 0 (if (4 : Int) < (us.length : Int) then 4 else (us.length : Int)).toNat) (rho n p q b g (dueD rels mks us) qs z us.length a0 a3 a6 a7 a8 a14 a15 a16 a17) S := by
  refine for_ind (fun i ρ S' => i ≤ 4 ∧ ∃ p' a6' a7' a14' a16', ρ = rho n p' q b g (dueD rels mks us) qs z us.length a0 a3 a6' a7' a8 a14' a15 a16' a17 ∧ Cx6 n m q b g rels mks us qs (c + 18 * i) p' S') _ (fun _ _ _ _ => trivial) ?_ ⟨by decide, p, a6, a7, a14, a16, rfl, h⟩ ?_
  · rintro i x ρ S' E' hx ⟨hi, p', a6', a7', a14', a16', rfl, h'⟩ _ _ _ kk _
    obtain ⟨hj, rfl⟩ := getElem_range hx
    have hj2 : i < us.length ∧ i < 4 := by
      split at hj <;> omega
    show f2_law E' (rho n p' q b g (dueD rels mks us) qs z us.length a0 a3 (some (.int (0 + (i : Int)))) a7' a8 a14' a15 a16' a17) S'
    rw [Int.zero_add]
    refine st_f2 kw hq hl (by omega) h' (by omega) fun p2 S2 a7'' a14'' a16'' h2 => kk _ S2 ⟨hj2.2, p2, some (.int (i : Int)), a7'', a14'', a16'', rfl, ?_⟩
    rw [show c + 18 * (i + 1) = c + 18 * i + 18 by omega]
    exact h2
  · rintro ρ S' ⟨hi, p', a6', a7', a14', a16', rfl, h'⟩
    exact k p' S' a6' a7' a14' a16' (h'.mono (by omega))
end
/-! ### the other loops of a turn -/
/-- a value that is no tuple of so many -/
inductive V6 (p many : Nat) (S : Sto) : D → Prop
  | nr {v : D} (hd : Nr v) (h : isTup v (many : Int) = false) : V6 p many S v
  | lst (l : Nat) (xs : List D) (hl : l ≠ p) (h : S[l]? = some (.lst xs)) : V6 p many S (.ref l)
theorem V6.stay {p many : Nat} {S S' : Sto} {v : D} (h : V6 p many S v) (f : Stay p S S') : V6 p many S' v := by
  cases h with
  | nr h2 h => exact .nr h2 h
  | lst l xs hl h => exact .lst l xs hl (f.at_ l _ hl h)
theorem V6.is {p many : Nat} {S : Sto} {v : D} (h : V6 p many S v) : ∀ S' (R : RD) (Rx : RX), Frm [] S S' → R (.bl false) S' → Cal w_is_tuple [v, .int (many : Int)] S' R Rx := fun S' R Rx f k => by
  cases h with
  | nr hd h =>
    refine sp_is_tuple hd ?_
    rw [h]
    exact k
  | lst l xs hl h => exact sp_is_tuple_ref (f.get0 h) k
/-- a value that is no priced book -/
inductive V7 (p : Nat) (S : Sto) : D → Prop
  | sc {v : D} (h : ∀ S, Other "PricedBook" S v) : V7 p S v
  | lst (l : Nat) (xs : List D) (hl : l ≠ p) (h : S[l]? = some (.lst xs)) : V7 p S (.ref l)
  | ins (l : Nat) (fs : List (Str × D)) (hl : l ≠ p) (h : S[l]? = some (.ins "Book" fs)) : V7 p S (.ref l)
theorem V7.stay {p : Nat} {S S' : Sto} {v : D} (h : V7 p S v) (f : Stay p S S') : V7 p S' v := by
  cases h with
  | sc h => exact .sc h
  | lst l xs hl h => exact .lst l xs hl (f.at_ l _ hl h)
  | ins l fs hl h => exact .ins l fs hl (f.at_ l _ hl h)
theorem V7.other {p : Nat} {S : Sto} {v : D} (h : V7 p S v) : Other "PricedBook" S v := by
  cases h with
  | sc h => exact h S
  | lst l xs hl h => exact .lst l xs h
  | ins l fs hl h => exact .ins l "Book" fs h (by simp) (by decide)
/-- a value that is no book, and which word tells it -/
def WB (S : Sto) (v : D) (w : Str) : Prop := ∀ S', Frm [] S S' → NB v S' (some (w, -1))
theorem WB.frm {S S' : Sto} {v : D} {w : Str} (h : WB S v w) (f : Frm [] S S') : WB S' v w := fun S2 f2 => h S2 (f.trans f2)
section
variable {n m q b g c p : Nat} {rels mks : List (Str × Int)} {us : List RuT} {qs : List (Int × Int)} {z : Int × Int} {E : DEnds} {dD : D}
theorem lp_f3 {lv : Nat} {vals : List D} {a0 a3 a6 a7 a8 a14 a15 a16 a17 : Option D} (kw : KitW rels mks us) (h : Cx6 n m q b g rels mks us qs c p S) (hlv : S[lv]? = some (.lst vals)) (hne : lv ≠ p) (hv : ∀ v ∈ vals, V6 p us.length S v) (hc : c + vals.length ≤ 100000)
    (k : ∀ S' a7', Stay p S S' → Cx6 n m q b g rels mks us qs (c + vals.length) p S' → E.nx (rho n p q b g dD qs z us.length a0 a3 a6 a7' a8 a14 a15 a16 a17) S') :
    forW (fun S' => S'[lv]? = some (.lst vals)) (gNm 7) f3_law E vals (rho n p q b g dD qs z us.length a0 a3 a6 a7 a8 a14 a15 a16 a17) S := by
  refine for_ind (fun i ρ S' => Stay p S S' ∧ i ≤ vals.length ∧ Cx6 n m q b g rels mks us qs (c + i) p S' ∧ ∃ a7', ρ = rho n p q b g dD qs z us.length a0 a3 a6 a7' a8 a14 a15 a16 a17) vals (fun i ρ S' hh => hh.1.at_ lv _ hne hlv) ?_ ⟨.refl, Nat.zero_le _, h, a7, rfl⟩ fun ρ S' ⟨s, _, hx, a7', e⟩ => by
    subst e
    exact k S' a7' s hx
  rintro i v ρ S' E' hi ⟨s, hle, hx, a7', rfl⟩ _ _ _ kk _
  have hil := lt_of_get hi
  have hv' := (hv v (List.mem_of_getElem? hi)).stay s
  obtain ⟨ps0, hp0, _⟩ := hx.p_
  refine ⟨mlst_at hp0 trivial, ?_⟩
  refine mk_pr fun S1 f1 g1 => ?_
  have h1 := hx.frm f1
  have hnp : NP (.ref S'.length) S1 (some ("prices", -1)) := np_prices (us := us.map ruleD) g1 h1.bk (nb_good kw h1.bk) fun S2 R Rx f2 k => by
    rw [List.length_map]
    exact (hv'.stay (.frm f1)).is S2 R Rx f2 k
  refine sp_said hnp fun S2 f2 => ?_
  refine ⟨sz5 (show 3 ≤ 100000 by decide), sz5 (show 2 ≤ 100000 by decide), ?_⟩
  refine (h1.frm f2).app (good_said (o := some ("prices", -1))) (by omega) fun S3 b3 h3 => ?_
  exact kk _ S3 ⟨s.trans ((Stay.frm (f1.trans f2)).trans (.but b3)), hil, h3, some v, rfl⟩
theorem lp_f5 {lv : Nat} {vals : List D} {a0 a3 a6 a7 a8 a14 a15 a16 a17 : Option D} (h : Cx6 n m q b g rels mks us qs c p S) (hlv : S[lv]? = some (.lst vals)) (hne : lv ≠ p) (hv : ∀ v ∈ vals, V7 p S v) (hc : c + vals.length ≤ 100000)
    (k : ∀ S' a7', Stay p S S' → Cx6 n m q b g rels mks us qs (c + vals.length) p S' → E.nx (rho n p q b g dD qs z us.length a0 a3 a6 a7' a8 a14 a15 a16 a17) S') :
    forW (fun S' => S'[lv]? = some (.lst vals)) (gNm 7) f5_law E vals (rho n p q b g dD qs z us.length a0 a3 a6 a7 a8 a14 a15 a16 a17) S := by
  refine for_ind (fun i ρ S' => Stay p S S' ∧ i ≤ vals.length ∧ Cx6 n m q b g rels mks us qs (c + i) p S' ∧ ∃ a7', ρ = rho n p q b g dD qs z us.length a0 a3 a6 a7' a8 a14 a15 a16 a17) vals (fun i ρ S' hh => hh.1.at_ lv _ hne hlv) ?_ ⟨.refl, Nat.zero_le _, h, a7, rfl⟩ fun ρ S' ⟨s, _, hx, a7', e⟩ => by
    subst e
    exact k S' a7' s hx
  rintro i v ρ S' E' hi ⟨s, hle, hx, a7', rfl⟩ _ _ _ kk _
  have hil := lt_of_get hi
  have hv' := (hv v (List.mem_of_getElem? hi)).stay s
  obtain ⟨ps0, hp0, _⟩ := hx.p_
  refine ⟨mlst_at hp0 trivial, ?_⟩
  refine sp_said (np_other hv'.other) fun S2 f2 => ?_
  refine ⟨sz5 (show 3 ≤ 100000 by decide), sz5 (show 2 ≤ 100000 by decide), ?_⟩
  refine (hx.frm f2).app (good_said (o := some ("form", -1))) (by omega) fun S3 b3 h3 => ?_
  exact kk _ S3 ⟨s.trans ((Stay.frm f2).trans (.but b3)), hil, h3, some v, rfl⟩
theorem lp_f4 {lv : Nat} {vals : List (D × Str)} {a0 a3 a6 a7 a8 a14 a15 a16 a17 : Option D} (h : Cx6 n m q b g rels mks us qs c p S) (hlv : S[lv]? = some (.lst (vals.map fun v => .tup [v.1, .str v.2]))) (hv : ∀ v ∈ vals, WB S v.1 v.2) (hc : c + 2 * vals.length ≤ 100000)
    (k : ∀ p' S' a7' a15', Frm [] S S' → Cx6 n m q b g rels mks us qs (c + 2 * vals.length) p' S' → E.nx (rho n p' q b g dD qs z us.length a0 a3 a6 a7' a8 a14 a15' a16 a17) S') :
    forW (fun S' => S'[lv]? = some (.lst (vals.map fun v => .tup [v.1, .str v.2]))) (gTp 2 (gsCons (gNm 7) (gsCons (gNm 15) gsNil))) f4_law E (vals.map fun v => .tup [v.1, .str v.2]) (rho n p q b g dD qs z us.length a0 a3 a6 a7 a8 a14 a15 a16 a17) S := by
  refine for_ind (fun i ρ S' => Frm [] S S' ∧ i ≤ vals.length ∧ ∃ p' a7' a15', Cx6 n m q b g rels mks us qs (c + 2 * i) p' S' ∧ ρ = rho n p' q b g dD qs z us.length a0 a3 a6 a7' a8 a14 a15' a16 a17) _ (fun i ρ S' hh => hh.1.get0 hlv) ?_ ⟨.refl, Nat.zero_le _, p, a7, a15, h, rfl⟩ fun ρ S' ⟨s, _, p', a7', a15', hx, e⟩ => by
    subst e
    rw [List.length_map] at hx
    exact k p' S' a7' a15' s hx
  rintro i x ρ S' E' hi ⟨s, hle, p', a7', a15', hx, rfl⟩ _ _ _ kk _
  have hil := lt_of_get hi
  rw [List.length_map] at hil
  obtain ⟨v, hv0, rfl⟩ := List.mem_map.mp (List.mem_of_getElem? hi)
  have hv' := (hv v hv0).frm s
  refine ⟨rfl, ?_⟩
  refine mk_pr fun S1 f1 g1 => ?_
  refine sp_said (np_book g1 (hv' S1 f1)) fun S2 f2 => ?_
  refine ⟨sz5 (show 3 ≤ 100000 by decide), sz5 (show 2 ≤ 100000 by decide), sz5 (show 1 ≤ 100000 by decide), ?_⟩
  refine ((hx.frm f1).frm f2).add (xs := [pr (saidD (some (v.2, -1)))]) (fun y hy => by rw [List.mem_singleton.mp hy]; exact good_said) (by simp; omega) fun p2 S3 f3 h3 l3 => ?_
  have F3 := f1.trans (f2.trans f3)
  refine mk_pr fun S4 f4 g4 => ?_
  refine sp_said (np_book g4 (hv' S4 (F3.trans f4))) fun S5 f5 => ?_
  refine ⟨sz5 (show 3 ≤ 100000 by decide), sz5 (show 2 ≤ 100000 by decide), sz5 (show 1 ≤ 100000 by decide), ?_⟩
  refine ((h3.frm f4).frm f5).add (xs := [pr (saidD (some (v.2, -1)))]) (fun y hy => by rw [List.mem_singleton.mp hy]; exact good_said) (by simp; omega) fun p3 S6 f6 h6 l6 => ?_
  refine kk _ S6 ⟨s.trans (F3.trans (f4.trans (f5.trans f6))), hil, p3, some v.1, some (.str v.2), h6.mono (by simp; omega), rfl⟩
end
/-- what a turn asks behind its draws -/
def u4_law : TDS :=
  (sSeq (sSet 5 (eTup (aCons (e2 ixD (eVar 4) (eC (.str "relations"))) (aCons (e2 ixD (eVar 4) (eC (.str "makers"))) (aCons (e2 ixD (eVar 4) (eC (.str "rules"))) aNil)))))
  (sSeq (sSet 2 (e2 addD (eVar 2) (eLst (aCons (eTup (aCons (eCall w_law_said (aCons (eVar 11) (aCons (e2 eqA (eVar 3) (eC (.int 0))) aNil))) (aCons (eTup (aCons (eC (.str "told")) (aCons (eC (.non)) aNil))) aNil))) (aCons (eTup (aCons (eCall w_law_parts_told (aCons (eVar 11) aNil)) (aCons (e2 addD (eVar 5) (eTup (aCons (eVar 9) aNil))) aNil))) aNil)))))
  (sSeq (sSet 2 (e2 addD (eVar 2) (eLst (aCons (eTup (aCons (e2 (eqOwn ["Book", "PricedBook"] "PricedBook" w_PricedBook___eq__) (eVar 11) (eMakeK "PricedBook" w_PricedBook_init [1, 0] (aCons (eVar 9) (aCons (eCall w_law_book (aCons (eVar 4) aNil)) aNil)))) (aCons (eC (.bl true)) aNil))) (aCons (eTup (aCons (e2 (eqOwn ["Book", "PricedBook"] "PricedBook" w_PricedBook___eq__) (eVar 11) (eMake "PricedBook" w_PricedBook_init (aCons (eVar 10) (aCons (e2 addD (eVar 9) (eTup (aCons (eTup (aCons (eC (.int 1)) (aCons (eC (.int 1)) aNil))) aNil))) aNil)))) (aCons (eC (.bl false)) aNil))) aNil)))))
  (sSeq (sSet 2 (e2 addD (eVar 2) (eLst (aCons (eTup (aCons (e2 (eqOwn ["Book", "PricedBook"] "PricedBook" w_PricedBook___eq__) (eVar 11) (eTup (aCons (eVar 10) (aCons (eVar 9) aNil)))) (aCons (eC (.bl false)) aNil))) (aCons (eTup (aCons (e2 (eqOwn ["Book", "PricedBook"] "PricedBook" w_PricedBook___eq__) (eVar 11) (eVar 10)) (aCons (eC (.bl false)) aNil))) aNil)))))
  (sSeq (sSet 2 (e2 addD (eVar 2) (eLst (aCons (eTup (aCons (eCall w_law_parts_told (aCons (eCall w_all_alike (aCons (eVar 10) (aCons (eVar 12) aNil))) aNil)) (aCons (e2 addD (eVar 5) (eTup (aCons (e2 mulD (eTup (aCons (eVar 12) aNil)) (eVar 13)) aNil))) aNil))) aNil))))
  (sSeq (sSet 2 (e2 addD (eVar 2) (eLst (aCons (eTup (aCons (eCall w_law_parts_told (aCons (eCallK w_all_alike [1, 0] aNil (aCons (eVar 12) (aCons (eVar 10) aNil))) aNil)) (aCons (e2 addD (eVar 5) (eTup (aCons (e2 mulD (eTup (aCons (eVar 12) aNil)) (eVar 13)) aNil))) aNil))) (aCons (eTup (aCons (eCall w_law_said (aCons (eCall w_all_alike (aCons (eVar 10) (aCons (eVar 12) aNil))) (aCons (eC (.bl false)) aNil))) (aCons (eTup (aCons (eC (.str "told")) (aCons (eC (.non)) aNil))) aNil))) aNil)))))
  (sSeq (sFor (iRange1 (eB minD (aCons (eVar 13) (aCons (eC (.int 4)) aNil)))) (gNm 6) f2_law)
  (sSeq (sFor (iSeq (eLst (aCons (eC (.non)) (aCons (eC (.int 0)) (aCons (eB listD (aCons (eVar 9) aNil)) (aCons (e2 addD (eVar 9) (eTup (aCons (eTup (aCons (eC (.int 1)) (aCons (eC (.int 1)) aNil))) aNil))) (aCons (e2 addD (eVar 9) (eTup (aCons (eC (.int 0)) (aCons (eC (.int 0)) aNil)))) (aCons (eC (.str "")) aNil)))))))) (gNm 7) f3_law)
  (sSeq (sSet 8 (eLst (aCons (eTup (aCons (eC (.non)) (aCons (eC (.str "form")) aNil))) (aCons (eTup (aCons (eMake "Book" w_Book_init (aCons (eTup aNil) (aCons (e2 ixD (eVar 4) (eC (.str "makers"))) (aCons (e2 ixD (eVar 4) (eC (.str "rules"))) aNil)))) (aCons (eC (.str "relations")) aNil))) (aCons (eTup (aCons (eMake "Book" w_Book_init (aCons (e2 ixD (eVar 4) (eC (.str "relations"))) (aCons (eC (.non)) (aCons (e2 ixD (eVar 4) (eC (.str "rules"))) aNil)))) (aCons (eC (.str "makers")) aNil))) aNil)))))
  (sSeq (sSet 8 (e2 addD (eVar 8) (eLst (aCons (eTup (aCons (eMake "Book" w_Book_init (aCons (e2 ixD (eVar 4) (eC (.str "relations"))) (aCons (e2 ixD (eVar 4) (eC (.str "makers"))) (aCons (eC (.non)) aNil)))) (aCons (eC (.str "form")) aNil))) (aCons (eTup (aCons (eVar 9) (aCons (eC (.str "form")) aNil))) aNil)))))
  (sSeq (sFor (iSeq (eVar 8)) (gTp 2 (gsCons (gNm 7) (gsCons (gNm 15) gsNil))) f4_law)
  (sSeq (sExpr (eAppend (eVar 2) (eTup (aCons (eCall w_law_said (aCons (eMake "PricedBook" w_PricedBook_init (aCons (eMake "Book" w_Book_init (aCons (e2 ixD (eVar 4) (eC (.str "relations"))) (aCons (e2 ixD (eVar 4) (eC (.str "makers"))) (aCons (e2 addD (e2 ixD (eVar 4) (eC (.str "rules"))) (eTup (aCons (eC (.non)) aNil))) aNil)))) (aCons (eC (.non)) aNil))) (aCons (eC (.bl false)) aNil))) (aCons (eTup (aCons (eC (.str "refused")) (aCons (eC (.str "rule")) (aCons (eVar 13) aNil)))) aNil)))))
  (sFor (iSeq (eLst (aCons (eC (.non)) (aCons (eC (.int 0)) (aCons (eC (.str "book")) (aCons (eVar 10) (aCons (eTup (aCons (eVar 10) (aCons (eVar 9) aNil))) (aCons (eLst (aCons (eVar 10) (aCons (eVar 9) aNil))) (aCons (eC (.bl true)) aNil))))))))) (gNm 7) f5_law)))))))))))))
theorem eqvAll_more : ∀ (xs : List PyData) (y : PyData), PyData.eqvAll xs (xs ++ [y]) = false
  | [], y => by simp [PyData.eqvAll]
  | x :: xs, y => by rw [List.cons_append, PyData.eqvAll, eqvAll_more xs y, Bool.and_false]
theorem eqv_more {xs : List D} {y : D} : PyData.eqv (toP (.tup xs)) (toP (.tup (xs ++ [y]))) = false := by
  rw [toP_tup, toP_tup, toPs_map, toPs_map, List.map_append, PyData.eqv]
  exact eqvAll_more _ _
section
variable {n m q b g c p : Nat} {rels mks : List (Str × Int)} {us : List RuT} {qs : List (Int × Int)} {z : Int × Int} {E : DEnds}
theorem Cx6.bp (h : Cx6 n m q b g rels mks us qs c p S) : b ≠ p := fun e => by
  obtain ⟨ps, hp, _⟩ := h.p_
  have := h.bk.at_
  rw [e, hp] at this
  cases this
theorem st_u4 {L : Int} {t : Nat} {a0 a5 a6 a7 a8 a14 a15 a16 a17 : Option D} (kw : KitW rels mks us) (hq : ∀ z ∈ qs, z ∈ pL) (hz : z ∈ pL) (hl : qs.length = us.length) (h : Cx6 n m q b g rels mks us qs c p S) (hL : L = (us.length : Int)) (hc : c + 105 ≤ 100000)
    (k : ∀ p' S' r4 r5 r6 r7 r8 r9 r10 r11 r12 r13 r14 r15 r16 r17, Deal n m S' → Prs [n, m] p' (c + 105) S' → E.nx [a0, some (.ref n), some (.ref p'), some (.int (t : Int)), r4, r5, r6, r7, r8, r9, r10, r11, r12, r13, r14, r15, r16, r17] S') :
    u4_law E [a0, some (.ref n), some (.ref p), some (.int (t : Int)), some (.ref q), a5, a6, a7, a8, some (.tup (qs.map qD)), some (.ref b), some (.ref g), some (qD z), some (.int L), a14, a15, a16, a17] S := by
  subst hL
  have u14 := kw.u14
  have z1 : 1 ≤ sizeLine := by decide
  have z2 : 2 ≤ sizeLine := by decide
  have z3 : 3 ≤ sizeLine := by decide
  have z4 : 4 ≤ sizeLine := by decide
  obtain ⟨s1, s2, s3⟩ := parts_sh kw
  have sq := prices_sh (qs_q (qs := qs))
  have gq : Good (pr (.tup [termD rels, termD mks, rulesD us, .tup (qs.map qD)])) := good_parts kw (prices_pl qs_q) (by simp; omega)
  have ulen : (us.map ruleD).length = us.length := List.length_map ..
  -- due
  refine h.kit.rel (h.kit.mak (h.kit.rul ⟨z3, ?_⟩))
  -- said, told
  refine sp_said (o := none) (np_good kw h.bk h.pc hq hl) fun S1 f1 => ⟨z2, z2, ?_⟩
  have h1 := h.frm f1
  refine sp_parts_told h1.pc h1.bk ⟨z1, z4, z2, z2, ?_⟩
  refine h1.add (xs := [pr (saidD none), pr (.tup [termD rels, termD mks, rulesD us, .tup (qs.map qD)])]) (fun x hx => ?_) (by simp; omega) fun p2 S2 f2 h2 _ => ?_
  · simp only [List.mem_cons, List.not_mem_nil, or_false] at hx
    rcases hx with rfl | rfl
    · exact good_said
    · exact gq
  -- alike, unlike
  refine sp_law_book h2.kit fun S3 f3 b3 => ?_
  refine mk_pr fun S4 f4 g4 => ?_
  have h4 := (h2.frm f3).frm f4
  refine ownAt.mk g _ rfl h4.pc.at_ (refAt.ins "PricedBook" _ g4.at_ (by simp) trivial) ?_
  refine sp_priced_eq (x := 8) h4.pc g4 h4.bk (b3.frm f4) s1 s2 s3 (by decide) ⟨_, rfl⟩ ⟨_, rfl⟩ ⟨_, rfl⟩ sq sq ?_
  rw [sq.refl]
  refine ⟨z2, z2, z1, sz5 (by rw [List.length_map]; show qs.length + 1 ≤ 100000; omega), ?_⟩
  refine mk_pr fun S5 f5 g5 => ?_
  have h5 := h4.frm f5
  have sq1 : Sh 8 (.tup (qs.map qD ++ [qD (1, 1)])) := prices_sh fun d hd => by
    rcases List.mem_append.mp hd with hd | hd
    · exact qs_q d hd
    · exact ⟨_, List.mem_singleton.mp hd⟩
  refine ownAt.mk g _ rfl h5.pc.at_ (refAt.ins "PricedBook" _ g5.at_ (by simp) trivial) ?_
  refine sp_priced_eq (x := 8) (ps' := qs.map qD ++ [qD (1, 1)]) h5.pc g5 h5.bk h5.bk s1 s2 s3 (by decide) ⟨_, rfl⟩ ⟨_, rfl⟩ ⟨_, rfl⟩ sq sq1 ?_
  rw [eqv_more]
  refine ⟨z2, z2, ?_⟩
  refine h5.add (xs := [pr (.bl true), pr (.bl false)]) (fun x hx => ?_) (by simp; omega) fun p3 S6 f6 h6 _ => ?_
  · simp only [List.mem_cons, List.not_mem_nil, or_false] at hx
    rcases hx with rfl | rfl <;> exact good_bl
  -- other things
  refine ⟨z2, ?_⟩
  refine ownAt.mk g _ rfl h6.pc.at_ trivial (sp_priced_ne (.tup _) ⟨z2, ?_⟩)
  refine ownAt.mk g _ rfl h6.pc.at_ (refAt.ins "Book" _ h6.bk.at_ (by simp) trivial) (sp_priced_ne (.ins b "Book" _ h6.bk.at_ (by simp) (by decide)) ⟨z2, z2, ?_⟩)
  refine h6.add (xs := [pr (.bl false), pr (.bl false)]) (fun x hx => ?_) (by simp; omega) fun p4 S7 f7 h7 _ => ?_
  · simp only [List.mem_cons, List.not_mem_nil, or_false] at hx
    rcases hx with rfl | rfl <;> exact good_bl
  -- one price for all
  have ef : (List.replicate ((us.length : Int)).toNat [qD z]).flatten = List.replicate us.length (qD z) := by
    rw [Int.toNat_natCast]
    exact flat_one _
  have grp : Good (pr (.tup [termD rels, termD mks, rulesD us, .tup (List.replicate us.length (qD z))])) := good_parts kw (fun d hd => by rw [List.eq_of_mem_replicate hd]; exact ⟨sh_q.pl, Nat.le_of_eq wt_qD⟩) (by simp; omega)
  refine sp_all_alike h7.bk (by rw [ulen]; omega) fun n8 S8 f8 g8 => ?_
  rw [ulen] at g8
  have h8 := h7.frm f8
  refine sp_parts_told g8 h8.bk ⟨z1, ⟨by omega, by omega, show 1 ≤ 1000 by decide⟩, ?_⟩
  rw [ef]
  refine ⟨z1, z4, z2, z1, ?_⟩
  refine h8.add (xs := [pr (.tup [termD rels, termD mks, rulesD us, .tup (List.replicate us.length (qD z))])]) (fun x hx => by rw [List.mem_singleton.mp hx]; exact grp) (by simp; omega) fun p5 S9 f9 h9 _ => ?_
  refine sp_all_alike (x := qD z) h9.bk (by rw [ulen]; omega) fun n10 S10 f10 g10 => ?_
  rw [ulen] at g10
  have h10 := h9.frm f10
  refine sp_parts_told g10 h10.bk ⟨z1, ⟨by omega, by omega, show 1 ≤ 1000 by decide⟩, ?_⟩
  rw [ef]
  refine ⟨z1, z4, z2, ?_⟩
  refine sp_all_alike h10.bk (by rw [ulen]; omega) fun n11 S11 f11 g11 => ?_
  rw [ulen] at g11
  have h11 := h10.frm f11
  have g11' : PricedAt n11 (.ref b) (.tup ((List.replicate us.length z).map qD)) S11 := by rw [List.map_replicate]; exact g11
  refine sp_said (o := none) (np_good kw h11.bk g11' (fun x hx => by rw [List.eq_of_mem_replicate hx]; exact hz) (by simp)) fun S12 f12 => ⟨z2, z2, z2, ?_⟩
  refine (h11.frm f12).add (xs := [pr (.tup [termD rels, termD mks, rulesD us, .tup (List.replicate us.length (qD z))]), pr (saidD none)]) (fun x hx => ?_) (by simp; omega) fun p6 S13 f13 h13 _ => ?_
  · simp only [List.mem_cons, List.not_mem_nil, or_false] at hx
    rcases hx with rfl | rfl
    · exact grp
    · exact good_said
  simp only [List.length_cons, List.length_nil] at h13
  -- other prices at one rule
  refine ⟨⟨by split <;> omega, by split <;> omega⟩, ?_⟩
  refine lp_f2 kw hq hl h13 (by omega) fun p7 S14 a6' a7' a14' a16' h14 => ?_
  -- prices of no form
  refine ⟨z2, z1, sz5 (by rw [List.length_map]; show qs.length + 1 ≤ 100000; omega), z2, sz5 (by rw [List.length_map]; show qs.length + 2 ≤ 100000; omega), sz5 (show 6 ≤ 100000 by decide), ?_⟩
  obtain ⟨ps14, hp14, _⟩ := h14.p_
  have lp14 := lt_of_get hp14
  refine iter_at get_last ?_
  have fl : Frm [] S14 (S14 ++ [Ob.lst (qs.map qD)] ++ [Ob.lst [.non, .int 0, .ref S14.length, .tup (qs.map qD ++ [qD (1, 1)]), .tup (qs.map qD ++ [.int 0, .int 0]), .str ""]]) := (Frm.app _).trans (.app _)
  refine lp_f3 kw (h14.frm fl) get_last (by simp; omega) (fun v hv => ?_) (by simp; omega) fun S15 a7'' st15 h15 => ?_
  · simp only [List.mem_cons, List.not_mem_nil, or_false] at hv
    rcases hv with rfl | rfl | rfl | rfl | rfl | rfl
    · exact .nr trivial rfl
    · exact .nr trivial rfl
    · exact .lst _ _ (by omega) ((Frm.app (W := []) _).get0 get_last)
    · refine .nr trivial (decide_eq_false ?_)
      rw [List.length_append, List.length_map]
      simp
      omega
    · refine .nr trivial (decide_eq_false ?_)
      rw [List.length_append, List.length_map]
      simp
      omega
    · exact .nr trivial rfl
  -- what is no book
  simp only [List.length_cons, List.length_nil] at h15
  refine ⟨z2, Nat.zero_le _, ?_⟩
  refine h15.kit.mak (h15.kit.rul (mk_bk fun S16 f16 b16 => ⟨z2, ?_⟩))
  have h16 := h15.frm f16
  refine h16.kit.rel (h16.kit.rul (mk_bk fun S17 f17 b17 => ⟨z2, z3, ?_⟩))
  have h17 := h16.frm f17
  have fw : Frm [] S17 (S17 ++ [Ob.lst [.tup [.non, .str "form"], .tup [.ref S15.length, .str "relations"], .tup [.ref S16.length, .str "makers"]]]) := .app _
  have h18 := h17.frm fw
  have g18 : (S17 ++ [Ob.lst [.tup [.non, .str "form"], .tup [.ref S15.length, .str "relations"], .tup [.ref S16.length, .str "makers"]]])[S17.length]? = some (.lst [.tup [.non, .str "form"], .tup [.ref S15.length, .str "relations"], .tup [.ref S16.length, .str "makers"]]) := get_last
  have b16' := (b16.frm f17).frm fw
  have b17' := b17.frm fw
  generalize S17 ++ [Ob.lst [.tup [.non, .str "form"], .tup [.ref S15.length, .str "relations"], .tup [.ref S16.length, .str "makers"]]] = S18 at h18 g18 b16' b17' ⊢
  refine h18.kit.rel (h18.kit.mak (mk_bk fun S19 f19 b19 => ⟨z2, z2, z2, ?_⟩))
  have fx : Frm [] S19 (S19 ++ [Ob.lst [.tup [.ref S18.length, .str "form"], .tup [.tup (qs.map qD), .str "form"]]]) := .app _
  refine mlst_at ((f19.trans fx).get0 g18) (mlst_at get_last ⟨sz5 (by simp), ?_⟩)
  refine iter_at get_last ?_
  have F20 : Frm [] S19 (S19 ++ [Ob.lst [.tup [.ref S18.length, .str "form"], .tup [.tup (qs.map qD), .str "form"]]] ++ [Ob.lst ([.tup [.non, .str "form"], .tup [.ref S15.length, .str "relations"], .tup [.ref S16.length, .str "makers"]] ++ [.tup [.ref S18.length, .str "form"], .tup [.tup (qs.map qD), .str "form"]])]) := fx.trans (.app _)
  have h20 := (h18.frm f19).frm F20
  refine lp_f4 (vals := [(.non, "form"), (.ref S15.length, "relations"), (.ref S16.length, "makers"), (.ref S18.length, "form"), (.tup (qs.map qD), "form")]) h20 get_last (fun v hv => ?_) (by simp; omega) fun p8 S21 a7''' a15' f21 h21 => ?_
  · simp only [List.mem_cons, List.not_mem_nil, or_false] at hv
    rcases hv with rfl | rfl | rfl | rfl | rfl
    · exact fun S' f => nb_other .non
    · exact fun S' f => nb_step (((b16'.frm f19).frm F20).frm f) fun R Rx k => sp_fault_rel (((b16'.frm f19).frm F20).frm f) k
    · exact fun S' f => nb_step (((b17'.frm f19).frm F20).frm f) fun R Rx k => sp_fault_mak (((b17'.frm f19).frm F20).frm f) kw.ok.r0 kw.ok.rl kw.ok.rn kw.ok.ra k
    · exact fun S' f => nb_step ((b19.frm F20).frm f) fun R Rx k => sp_fault_form ((b19.frm F20).frm f) (k S' .refl)
    · exact fun S' f => nb_other (.tup _)
  simp only [List.length_cons, List.length_nil] at h21
  -- a rule that is none
  obtain ⟨ps21, hp21, _⟩ := h21.p_
  refine ⟨mlst_at hp21 trivial, ?_⟩
  refine h21.kit.rel (h21.kit.mak (h21.kit.rul ⟨z1, sz5 (by rw [ulen]; show us.length + 1 ≤ 100000; omega), ?_⟩))
  refine mk_bk fun S22 f22 b22 => ?_
  refine mk_pr fun S23 f23 g23 => ?_
  have b23 := b22.frm f23
  refine sp_said (o := some ("rule", (us.length : Int))) (np_book g23 (nb_step b23 fun R Rx k => sp_fault_rule kw.ok b23 k)) fun S24 f24 => ⟨z3, z2, ?_⟩
  refine (((h21.frm f22).frm f23).frm f24).app (good_said (o := some ("rule", (us.length : Int)))) (by omega) fun S25 b25 h25 => ?_
  -- what is no priced book
  refine ⟨z2, z2, sz5 (show 7 ≤ 100000 by decide), ?_⟩
  obtain ⟨ps25, hp25, _⟩ := h25.p_
  have lp25 := lt_of_get hp25
  refine iter_at get_last ?_
  have fz : Frm [] S25 (S25 ++ [Ob.lst [.ref b, .tup (qs.map qD)]] ++ [Ob.lst [.non, .int 0, .str "book", .ref b, .tup [.ref b, .tup (qs.map qD)], .ref S25.length, .bl true]]) := (Frm.app _).trans (.app _)
  have h26 := h25.frm fz
  refine lp_f5 h26 get_last (by simp; omega) (fun v hv => ?_) (by simp; omega) fun S27 a7x st27 h27 => ?_
  · simp only [List.mem_cons, List.not_mem_nil, or_false] at hv
    rcases hv with rfl | rfl | rfl | rfl | rfl | rfl | rfl
    · exact .sc fun _ => .non
    · exact .sc fun _ => .int _
    · exact .sc fun _ => .str _
    · exact .ins b _ h26.bp h26.bk.at_
    · exact .sc fun _ => .tup _
    · exact .lst _ _ (by omega) ((Frm.app (W := []) _).get0 get_last)
    · exact .sc fun _ => .bl _
  · simp only [List.length_cons, List.length_nil] at h27
    exact k _ S27 _ _ _ _ _ _ _ _ _ _ _ _ _ _ h27.d (h27.prs.mono (by omega))
end
/-! ### the law -/
theorem st_turn {n m p c t : Nat} {E : DEnds} {a0 r4 r5 r6 r7 r8 r9 r10 r11 r12 r13 r14 r15 r16 r17 : Option D} (d : Deal n m S) (hp : Prs [n, m] p c S) (hc : c + 105 ≤ 100000)
    (k : ∀ p' S' r4 r5 r6 r7 r8 r9 r10 r11 r12 r13 r14 r15 r16 r17, Deal n m S' → Prs [n, m] p' (c + 105) S' → E.nx [a0, some (.ref n), some (.ref p'), some (.int (t : Int)), r4, r5, r6, r7, r8, r9, r10, r11, r12, r13, r14, r15, r16, r17] S') :
    f6_law E [a0, some (.ref n), some (.ref p), some (.int (t : Int)), r4, r5, r6, r7, r8, r9, r10, r11, r12, r13, r14, r15, r16, r17] S := by
  refine sp_drawn_kit d fun rels mks us q S1 kw f1 d1 kt nq => ?_
  have u14 := kw.u14
  refine kt.rul ?_
  refine lc_drawG (fun x d => ∃ z, d = qD z ∧ z ∈ pL) d1 (by rw [List.length_map]; omega) (fun _ _ => trivial) (fun x hx Sa Ra fa da ka => ?_) fun ds S2 hds f2 d2 hq2 => ?_
  · exact sp_law_price da fun z Sb hz fb db => ka _ Sb ⟨z, rfl, hz⟩ fb db
  obtain ⟨qs, rfl, hqs, hql⟩ := paired_map (f := qD) (Q := fun z => z ∈ pL) hds fun x _ d ⟨z, e, h⟩ => ⟨z, e, h⟩
  rw [List.length_map] at hql
  refine lst_at hq2 ?_
  refine sp_law_book (kt.frm f2 nq) fun S3 f3 b3 => ?_
  refine mk_pr fun S4 f4 g4 => ?_
  have d4 := d2.frm0 (f3.trans f4)
  have hn2 := d2.lt
  have L3 := f3.len
  refine sp_law_price d4 fun z S5 hz f5 d5 => ?_
  have nb : S2.length ∉ [n, m] := by simp; omega
  have ng : S3.length ∉ [n, m] := by simp; omega
  refine st_u4 (us := us) (rels := rels) (mks := mks) kw hqs hz hql ⟨d5, ((hp.frm ((f1.trans f2).trans ((f3.trans f4).nil.trans f5)))), (kt.frm f2 nq).frm ((f3.trans f4).nil.trans f5) nq, ⟨f5.get (b3.frm f4).at_ nb⟩, ⟨f5.get g4.at_ ng⟩⟩ (by rw [List.length_map, hql]) hc k
theorem law_true (ns : List Int) (hl : ns.length ≤ 63) : w_law [.ref 0] [.fix (ns.map D.int)] (fun d _ => d = .bl true) noX := by
  rw [w_law_eq]
  refine sp_deal (q := 0) (by decide) (by decide) rfl fun n m S1 hn hm f1 d1 => ?_
  refine ⟨Nat.zero_le _, ⟨by decide, by decide⟩, ?_⟩
  have hlt := d1.lt
  refine for_ind (fun i ρ S' => i ≤ 5 ∧ ∃ p r3 r4 r5 r6 r7 r8 r9 r10 r11 r12 r13 r14 r15 r16 r17, ρ = [some (.ref 0), some (.ref n), some (.ref p), r3, r4, r5, r6, r7, r8, r9, r10, r11, r12, r13, r14, r15, r16, r17] ∧ Deal n m S' ∧ Prs [n, m] p (105 * i) S') _ (fun _ _ _ _ => trivial) ?_
    ⟨by decide, S1.length, none, none, none, none, none, none, none, none, none, none, none, none, none, none, none, rfl, d1.frm0 (.app _), ⟨by simp; omega, [], get_last, by simp, by simp⟩⟩ ?_
  · rintro i x ρ S' E' hx ⟨hi, p, r3, r4, r5, r6, r7, r8, r9, r10, r11, r12, r13, r14, r15, r16, r17, rfl, d', hp⟩ _ _ _ kk _
    obtain ⟨hj, rfl⟩ := getElem_range hx
    have hj5 : i < 5 := hj
    show f6_law E' [some (.ref 0), some (.ref n), some (.ref p), some (.int (0 + (i : Int))), r4, r5, r6, r7, r8, r9, r10, r11, r12, r13, r14, r15, r16, r17] S'
    rw [Int.zero_add]
    refine st_turn d' hp (by omega) fun p' S2 r4 r5 r6 r7 r8 r9 r10 r11 r12 r13 r14 r15 r16 r17 d2 hp2 => kk _ S2 ⟨hj5, p', some (.int (i : Int)), r4, r5, r6, r7, r8, r9, r10, r11, r12, r13, r14, r15, r16, r17, rfl, d2, ?_⟩
    rw [show 105 * (i + 1) = 105 * i + 105 by omega]
    exact hp2
  · rintro ρ S' ⟨hi, p, r3, r4, r5, r6, r7, r8, r9, r10, r11, r12, r13, r14, r15, r16, r17, rfl, d', hp⟩
    obtain ⟨_, ps, h1, h2, h3⟩ := hp
    exact sp_all h1 h2 fun _ => rfl
end K02
open PySem PySem.W PySem.Calls PyProof.Rows
theorem PySem.Challenge.cw_cheapathand_k02_priced_books_are_let_or_holds : PySem.Challenge.rw_cheapathand_k02_priced_books_are_let_or.Holds := by
  w_on; o_law
  refine HandSHeadRun.head_any (r := OpenLaw.row PySem.Challenge.rw_cheapathand_k02_priced_books_are_let_or) (q := view (OpenLaw.row PySem.Challenge.rw_cheapathand_k02_priced_books_are_let_or).prog [59]) (H := DL.hookX 5 K02.fas K02.fns K02.css) (ob := K02.ob) (M := 20000) (loose := K02.loose) (d := HandSHeadRun.topDef (OpenLaw.row PySem.Challenge.rw_cheapathand_k02_priced_books_are_let_or).prog 59) (kwd := []) K02.ob_eq
    (by kernel_rfl) (fun s => by kernel_rfl) K02.run (by kernel_rfl) (by kernel_rfl) (by kernel_rfl) (by rfl) (by first | assumption | decide +kernel) (by decide +kernel) ⟨rfl, rfl, rfl, rfl, rfl, by decide +kernel⟩ ?hw ?hc
  case hw => w_witness2
  case hc =>
    refine DL.walk_D (l := PySem.Challenge.rw_cheapathand_k02_priced_books_are_let_or) (n := 63) (k := 12) (x := "script") rfl (by decide) (by kernel_rfl) ⟨rfl, by decide, by decide⟩ fun w mg fa h Y G hmg0 => ?_
    obtain ⟨K, KX, c⟩ := Y
    have hmg : mg ("law" : PySem.Str) = some (.ref fa) := by
      have e : (HandSHeadRun.topDef (OpenLaw.row PySem.Challenge.rw_cheapathand_k02_priced_books_are_let_or).prog 59).name = ("law" : PySem.Str) := by kernel_rfl
      rw [← e]
      exact hmg0
    letI : DL.PWd := ⟨(PySem.Challenge.rw_cheapathand_k02_priced_books_are_let_or).prog, w⟩
    obtain ⟨fd, hb, hF⟩ := K02.facts KX G hmg c
    exact ⟨K, fd, _, KX, hb, fun H a ns hl hO hS => DL.law_start hO hS (K02.law_true ns hl), hF⟩
