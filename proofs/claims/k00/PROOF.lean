import PyProof.Rows.All
import Wide.All
import OpenK.AllK
import Wide.FinOn
import HandS.ForMost
import HandS.Exc
import HandS.WordsExc
import HandS.CallSlots
import HandS.Walk
import HandS.Style
import HandS.Wide
import HandS.IsInst
import HandS.FStr
import HandS.TupAny
import HandS.Deep
import HandS.Zip
import HandS.Conv
import HandS.Flow
import HandS.Defaults
import HandS.Head0
import HandS.Head1
import HandS.Head2
import HandS.HeadEnd
import HandS.HeadHook1
import HandS.HeadHook2
import PySem.Challenge.RW_cheapathand_k00_prices_are_added_and_tol
set_option Elab.async false
set_option linter.all false
set_option maxRecDepth 100000
set_option maxHeartbeats 4000000
namespace DL
open PySem PySem.Spec PyProof.Rows L2

/-! ### values as trees, objects that change in a store -/
inductive D where
  | non | bl (b : Bool) | int (i : Int) | str (x : Str) | tup (xs : List D) | ref (n : Nat)

inductive Ob where
  | lst (xs : List D)
  | fix (xs : List D)
  | ins (C : Addr) (fs : List (Str × D))

abbrev Sto := List Ob
abbrev Ev := List (Option D)
structure DX where
  cls : Value
  fs : Option (List (Str × D))
abbrev RD := D → Sto → Prop
abbrev RX := DX → Sto → Prop
abbrev TD := RX → Ev → Sto → RD → Prop
abbrev TDT := RX → Ev → Sto → (Bool → Sto → Prop) → Prop
abbrev TDA := RX → Ev → Sto → (List D → Sto → Prop) → Prop
structure DEnds where
  nx : Ev → Sto → Prop
  rt : RD
  bk : Ev → Sto → Prop
  ct : Ev → Sto → Prop
  ex : DX → Ev → Sto → Prop
abbrev TDS := DEnds → Ev → Sto → Prop
abbrev DSp := List D → Sto → RD → RX → Prop

/-- a fork, held shut -/
inductive ift (b : Bool) (A B : Prop) : Prop
  | t (e : b = true) (h : A)
  | f (e : b = false) (h : B)
theorem ift_t {A B : Prop} (h : ift true A B) : A := by
  cases h with
  | t _ h => exact h
  | f e _ => cases e
theorem ift_f {A B : Prop} (h : ift false A B) : B := by
  cases h with
  | t e _ => cases e
  | f _ h => exact h
theorem ifT {b : Bool} {A B : Prop} (e : b = true) (h : A) : ift b A B := .t e h
theorem ifF {b : Bool} {A B : Prop} (e : b = false) (h : B) : ift b A B := .f e h
theorem ifB {b : Bool} {A B : Prop} (h1 : b = true → A) (h2 : b = false → B) : ift b A B := by
  cases b
  · exact ifF rfl (h2 rfl)
  · exact ifT rfl (h1 rfl)
/-! ### how values and objects are laid -/
section
variable (K : PySem.W.Frag) (H : Hp) (μ : List Addr)
mutual
inductive Rep : D → V → Prop
  | non : Rep .non .non
  | bl (b : Bool) : Rep (.bl b) (.bl b)
  | int (i : Int) : Rep (.int i) (.int i)
  | str (x : Str) : Rep (.str x) (.str x)
  | tup {a : Addr} {vs : List V} {ds : List D} : SqT K H a vs → Reps ds vs → Rep (.tup ds) (.ref a)
  | ref {n : Nat} {a : Addr} : μ[n]? = some a → Rep (.ref n) (.ref a)
inductive Reps : List D → List V → Prop
  | nil : Reps [] []
  | cons {d : D} {v : V} {ds : List D} {vs : List V} : Rep d v → Reps ds vs → Reps (d :: ds) (v :: vs)
end
abbrev RepF : List (Str × D) → List (Str × V) → Prop := Paired fun p q => p.1 = q.1 ∧ Rep K H μ p.2 q.2
def FixL (a : Addr) (xs : List V) : Prop :=
  (∃ o, H a = some (.frz o (.lst xs))) ∨
    ∃ (o : Obj) (its : Array Value) (n : Nat), K.lookup a = some o ∧ o.cls = .type "list" ∧ o.dict = none ∧ o.data = .seq its n ∧ its.size ≤ sizeLine ∧ Vals xs its.toList
def RepO (a : Addr) : Ob → Prop
  | .lst ds => ∃ vs, H a = some (.lst vs) ∧ Reps K H μ ds vs
  | .fix ds => ∃ vs, FixL K H a vs ∧ Reps K H μ ds vs
  | .ins C fs => ∃ dx gs, H a = some (.ins C dx gs) ∧ RepF K H μ fs gs
def RepX (x : DX) (cls : Value) (d : Option Addr) : Prop := cls = x.cls ∧ match x.fs with
  | none => d = none
  | some fs => ∃ dd gs, d = some dd ∧ H dd = some (.xd gs) ∧ RepF K H μ fs gs
end
def isFix : Option Ob → Bool
  | some (.fix _) => true
  | _ => false
structure Ext (K : PySem.W.Frag) (H : Hp) (μ : List Addr) (H' : Hp) (μ' : List Addr) : Prop where
  mu : ∀ (i : Nat) a, μ[i]? = some a → μ'[i]? = some a
  tup : ∀ a xs, SqT K H a xs → SqT K H' a xs
  frz : ∀ a o u, H a = some (.frz o u) → H' a = some (.frz o u)
structure Sim (K : PySem.W.Frag) (H : Hp) (μ : List Addr) (S : Sto) : Prop where
  len : μ.length = S.length
  inj : ∀ (i j : Nat) a, μ[i]? = some a → μ[j]? = some a → isFix S[i]? = false → isFix S[j]? = false → i = j
  ob : ∀ (i : Nat) a o, μ[i]? = some a → S[i]? = some o → RepO K H μ a o
structure RepE (K : PySem.W.Frag) (H : Hp) (μ : List Addr) (ρ : Ev) (σ : L2.St) : Prop where
  len : σ.length = ρ.length
  at_ : ∀ (i : Nat) d, ρ[i]? = some (some d) → ∃ v, σ[i]? = some (some v) ∧ Rep K H μ d v
structure At (K : PySem.W.Frag) (σ : L2.St) (H : Hp) (ρ : Ev) (μ : List Addr) (S : Sto) : Prop where
  env : RepE K H μ ρ σ
  sim : Sim K H μ S
section
variable {K : PySem.W.Frag} {H H' H'' : Hp} {μ μ' μ'' : List Addr} {S : Sto}
theorem Ext.refl : Ext K H μ H μ := ⟨fun _ _ h => h, fun _ _ h => h, fun _ _ _ h => h⟩
theorem Ext.trans (a : Ext K H μ H' μ') (b : Ext K H' μ' H'' μ'') : Ext K H μ H'' μ'' :=
  ⟨fun i x h => b.mu i x (a.mu i x h), fun i x h => b.tup i x (a.tup i x h), fun i x u h => b.frz i x u (a.frz i x u h)⟩
mutual
theorem Rep.mono (e : Ext K H μ H' μ') : ∀ {d v}, Rep K H μ d v → Rep K H' μ' d v
  | _, _, .non => .non
  | _, _, .bl b => .bl b
  | _, _, .int i => .int i
  | _, _, .str x => .str x
  | _, _, .tup h r => .tup (e.tup _ _ h) (Reps.mono e r)
  | _, _, .ref h => .ref (e.mu _ _ h)
theorem Reps.mono (e : Ext K H μ H' μ') : ∀ {ds vs}, Reps K H μ ds vs → Reps K H' μ' ds vs
  | _, _, .nil => .nil
  | _, _, .cons h r => .cons (Rep.mono e h) (Reps.mono e r)
end
theorem RepF.mono (e : Ext K H μ H' μ') : ∀ {fs gs}, RepF K H μ fs gs → RepF K H' μ' fs gs
  | _, _, .nil => .nil
  | _, _, .cons h r => .cons ⟨h.1, h.2.mono e⟩ (RepF.mono e r)
theorem RepE.mono {ρ : Ev} {σ : L2.St} (r : RepE K H μ ρ σ) (e : Ext K H μ H' μ') : RepE K H' μ' ρ σ :=
  ⟨r.len, fun i d h => let ⟨v, h1, h2⟩ := r.at_ i d h; ⟨v, h1, h2.mono e⟩⟩
theorem FixL.mono (e : Ext K H μ H' μ') {a : Addr} {xs : List V} (h : FixL K H a xs) : FixL K H' a xs := by
  rcases h with ⟨o, h⟩ | h
  · exact .inl ⟨o, e.frz _ _ _ h⟩
  · exact .inr h
theorem FixL.sql {a : Addr} {xs : List V} (h : FixL K H a xs) : SqL K H a xs := by
  rcases h with ⟨o, h⟩ | h
  · exact .inl (.inr ⟨o, h⟩)
  · exact .inr h
theorem Reps.length {ds : List D} {vs : List V} (r : Reps K H μ ds vs) : ds.length = vs.length := by
  induction ds generalizing vs with
  | nil => cases r; rfl
  | cons d ds ih => cases r with | cons h t => simp [ih t]
theorem Reps.get : ∀ {ds : List D} {vs : List V} {i : Nat} {d : D}, Reps K H μ ds vs → ds[i]? = some d → ∃ v, vs[i]? = some v ∧ Rep K H μ d v
  | _, _, _, _, .nil, e => by simp at e
  | _, _, 0, _, .cons r _, e => by simp at e; subst e; exact ⟨_, rfl, r⟩
  | _, _, i + 1, x, .cons _ t, e => by
    obtain ⟨u, h1, h2⟩ := Reps.get (i := i) (d := x) t (by simpa using e)
    exact ⟨u, by simpa using h1, h2⟩
theorem Reps.getV : ∀ {ds : List D} {vs : List V} {i : Nat} {v : V}, Reps K H μ ds vs → vs[i]? = some v → ∃ d, ds[i]? = some d ∧ Rep K H μ d v
  | _, _, _, _, .nil, e => by simp at e
  | _, _, 0, _, .cons r _, e => by simp at e; subst e; exact ⟨_, rfl, r⟩
  | _, _, i + 1, x, .cons _ t, e => by
    obtain ⟨u, h1, h2⟩ := Reps.getV (i := i) (v := x) t (by simpa using e)
    exact ⟨u, by simpa using h1, h2⟩
theorem Reps.append : ∀ {ds es : List D} {vs us : List V}, Reps K H μ ds vs → Reps K H μ es us → Reps K H μ (ds ++ es) (vs ++ us)
  | _, _, _, _, .nil, s => s
  | _, _, _, _, .cons r t, s => .cons r (Reps.append t s)
theorem Reps.take : ∀ {ds : List D} {vs : List V} (n : Nat), Reps K H μ ds vs → Reps K H μ (ds.take n) (vs.take n)
  | _, _, 0, _ => .nil
  | _, _, _ + 1, .nil => .nil
  | _, _, n + 1, .cons r t => .cons r (Reps.take n t)
theorem Reps.drop : ∀ {ds : List D} {vs : List V} (n : Nat), Reps K H μ ds vs → Reps K H μ (ds.drop n) (vs.drop n)
  | _, _, 0, r => r
  | _, _, _ + 1, .nil => .nil
  | _, _, n + 1, .cons _ t => Reps.drop n t
theorem Reps.set {d : D} {v : V} (r : Rep K H μ d v) : ∀ {ds : List D} {vs : List V} (i : Nat), Reps K H μ ds vs → Reps K H μ (ds.set i d) (vs.set i v)
  | _, _, _, .nil => .nil
  | _, _, 0, .cons _ t => .cons r t
  | _, _, i + 1, .cons q t => .cons q (Reps.set r i t)
theorem Reps.reverse {ds : List D} {vs : List V} (r : Reps K H μ ds vs) : Reps K H μ ds.reverse vs.reverse := by
  induction ds generalizing vs with
  | nil => cases r; exact .nil
  | cons d ds ih => cases r with
    | cons h t => rw [List.reverse_cons, List.reverse_cons]; exact (ih t).append (.cons h .nil)
theorem Reps.dropLast {ds : List D} {vs : List V} (r : Reps K H μ ds vs) : Reps K H μ ds.dropLast vs.dropLast := by
  rw [List.dropLast_eq_take, List.dropLast_eq_take, r.length]
  exact r.take _
theorem Reps.ints : ∀ {ns : List Int} {vs : List V}, Reps K H μ (ns.map D.int) vs → vs = ns.map V.int
  | [], _, .nil => rfl
  | n :: ns, _, .cons h t => by cases h; rw [Reps.ints t]; rfl
theorem Reps.of_ints : ∀ ns : List Int, Reps K H μ (ns.map D.int) (ns.map V.int)
  | [] => .nil
  | n :: ns => .cons (.int n) (Reps.of_ints ns)
theorem Reps.strs : ∀ {ns : List Str} {vs : List V}, Reps K H μ (ns.map D.str) vs → vs = ns.map V.str
  | [], _, .nil => rfl
  | n :: ns, _, .cons h t => by cases h; rw [Reps.strs t]; rfl
theorem Reps.rep {ds : List D} {vs : List V} (r : Reps K H μ ds vs) : ∀ k : Nat, Reps K H μ (List.replicate k ds).flatten (List.replicate k vs).flatten
  | 0 => .nil
  | k + 1 => by rw [List.replicate_succ, List.replicate_succ, List.flatten_cons, List.flatten_cons]; exact r.append (Reps.rep r k)
/-- how an object's description is carried on -/
theorem RepO.mono (e : Ext K H μ H' μ') {a : Addr} {o : Ob} (h : RepO K H μ a o) (k : isFix (some o) = false → H' a = H a) : RepO K H' μ' a o := by
  cases o with
  | lst ds => obtain ⟨vs, h1, h2⟩ := h; exact ⟨vs, (k rfl).trans h1, h2.mono e⟩
  | fix ds => obtain ⟨vs, h1, h2⟩ := h; exact ⟨vs, h1.mono e, h2.mono e⟩
  | ins C fs => obtain ⟨dx, gs, h1, h2⟩ := h; exact ⟨dx, gs, (k rfl).trans h1, h2.mono e⟩
theorem RepO.there {a : Addr} {o : Ob} (h : RepO K H μ a o) (k : isFix (some o) = false) : ∃ u, H a = some u ∧ Mut (some u) := by
  cases o with
  | lst ds => obtain ⟨vs, h1, h2⟩ := h; exact ⟨_, h1, trivial⟩
  | fix ds => cases k
  | ins C fs => obtain ⟨dx, gs, h1, h2⟩ := h; exact ⟨_, h1, trivial⟩
/-- a fresh place -/
theorem Ext.fresh {p : Addr} {o : HO} {μ' : List Addr} (hp : H p = none) (hm : ∀ (i : Nat) a, μ[i]? = some a → μ'[i]? = some a) : Ext K H μ (upd H p o) μ' := by
  refine ⟨hm, fun a xs h => ?_, fun a ob u h => ?_⟩
  · rcases h with (h | ⟨u, h⟩) | h
    · exact .inl (.inl (by rw [upd_ne (ne_of_none h hp)]; exact h))
    · exact .inl (.inr ⟨u, by rw [upd_ne (ne_of_none h hp)]; exact h⟩)
    · exact .inr h
  · rw [upd_ne (ne_of_none h hp)]; exact h
/-- a thing that changes is written -/
theorem Ext.write {p : Addr} {o u : HO} (hp : H p = some u) (mu : Mut (some u)) : Ext K H μ (upd H p o) μ := by
  have ne : ∀ a v, H a = some v → ¬ Mut (some v) → a ≠ p := fun a v h n e => by rw [e, hp] at h; cases h; exact n mu
  refine ⟨fun _ _ h => h, fun a xs h => ?_, fun a ob u h => ?_⟩
  · rcases h with (h | ⟨u, h⟩) | h
    · exact .inl (.inl (by rw [upd_ne (ne a _ h (fun z => z))]; exact h))
    · exact .inl (.inr ⟨u, by rw [upd_ne (ne a _ h (fun z => z))]; exact h⟩)
    · exact .inr h
  · rw [upd_ne (ne a _ h (fun z => z))]; exact h
/-- a new tuple (or any thing of which the store does not tell) -/
theorem Sim.tup {p : Addr} {o : HO} (s : Sim K H μ S) (hp : H p = none) : Sim K (upd H p o) μ S := by
  refine ⟨s.len, s.inj, fun i a ob h1 h2 => (s.ob i a ob h1 h2).mono (Ext.fresh hp fun _ _ h => h) fun hf => ?_⟩
  obtain ⟨u, h, _⟩ := (s.ob i a ob h1 h2).there hf
  exact upd_ne (ne_of_none h hp)
theorem get_snoc {α : Type} {l : List α} {x y : α} {i : Nat} (h : (l ++ [x])[i]? = some y) : l[i]? = some y ∨ (i = l.length ∧ x = y) := by
  rw [List.getElem?_append] at h
  split at h
  · exact .inl h
  · rename_i hn
    have : i - l.length = 0 := by
      cases e : i - l.length with
      | zero => rfl
      | succ k => rw [e] at h; simp at h
    rw [this] at h
    exact .inr ⟨by omega, by simpa using h⟩
theorem get_old {α : Type} {l r : List α} {x : α} {i : Nat} (h : l[i]? = some x) : (l ++ r)[i]? = some x := by
  rw [List.getElem?_append_left (List.getElem?_eq_some_iff.mp h).1]; exact h
/-- a new object -/
theorem Sim.new {p : Addr} {o : HO} {ob : Ob} (s : Sim K H μ S) (hp : H p = none) (r : RepO K (upd H p o) (μ ++ [p]) p ob) : Sim K (upd H p o) (μ ++ [p]) (S ++ [ob]) := by
  have hp' : H p = Option.none := hp
  refine ⟨by simp [s.len], fun i j a h1 h2 f1 f2 => ?_, fun i a ob' h1 h2 => ?_⟩
  · rcases get_snoc h1 with h1 | ⟨h1, e1⟩ <;> rcases get_snoc h2 with h2 | ⟨h2, e2⟩
    · have l1 : i < S.length := by rw [← s.len]; exact (List.getElem?_eq_some_iff.mp h1).1
      have l2 : j < S.length := by rw [← s.len]; exact (List.getElem?_eq_some_iff.mp h2).1
      rw [List.getElem?_append_left l1] at f1
      rw [List.getElem?_append_left l2] at f2
      exact s.inj i j a h1 h2 f1 f2
    · have l1 : i < S.length := by rw [← s.len]; exact (List.getElem?_eq_some_iff.mp h1).1
      rw [List.getElem?_append_left l1] at f1
      obtain ⟨ob1, e⟩ : ∃ ob1, S[i]? = some ob1 := ⟨S[i], List.getElem?_eq_getElem l1⟩
      rw [e] at f1
      obtain ⟨u, hu, _⟩ := (s.ob i a ob1 h1 e).there f1
      rw [← e2, hp] at hu; cases hu
    · have l2 : j < S.length := by rw [← s.len]; exact (List.getElem?_eq_some_iff.mp h2).1
      rw [List.getElem?_append_left l2] at f2
      obtain ⟨ob1, e⟩ : ∃ ob1, S[j]? = some ob1 := ⟨S[j], List.getElem?_eq_getElem l2⟩
      rw [e] at f2
      obtain ⟨u, hu, _⟩ := (s.ob j a ob1 h2 e).there f2
      rw [← e1, hp] at hu; cases hu
    · omega
  · rcases get_snoc h1 with h1 | ⟨h1, e1⟩
    · have l1 : i < S.length := by rw [← s.len]; exact (List.getElem?_eq_some_iff.mp h1).1
      rw [List.getElem?_append_left l1] at h2
      have q := s.ob i a ob' h1 h2
      refine q.mono (Ext.fresh hp fun _ _ h => get_old h) fun hf => ?_
      obtain ⟨u, hu, _⟩ := q.there hf
      exact upd_ne (ne_of_none hu hp)
    · have : (S ++ [ob])[i]? = some ob := by rw [h1, s.len]; simp
      rw [this] at h2; cases h2
      subst e1
      exact r
theorem Ext.new {p : Addr} {o : HO} (hp : H p = none) : Ext K H μ (upd H p o) (μ ++ [p]) := Ext.fresh hp fun _ _ h => get_old h
/-- an object written -/
theorem Sim.write {i : Nat} {a : Addr} {o : HO} {ob ob' : Ob} (s : Sim K H μ S) (hi : μ[i]? = some a) (hs : S[i]? = some ob) (f : isFix (some ob) = false) (f' : isFix (some ob') = false) (r : RepO K (upd H a o) μ a ob') : Sim K (upd H a o) μ (S.set i ob') := by
  have il : i < S.length := (List.getElem?_eq_some_iff.mp hs).1
  obtain ⟨u, hu, mu⟩ := (s.ob i a ob hi hs).there f
  have fx : ∀ j, isFix (S.set i ob')[j]? = isFix S[j]? := fun j => by
    by_cases e : j = i
    · subst e; rw [List.getElem?_set_self il, hs, f, f']
    · rw [List.getElem?_set_ne (Ne.symm e)]
  refine ⟨by simp [s.len], fun j k b h1 h2 f1 f2 => ?_, fun j b ob1 h1 h2 => ?_⟩
  · rw [fx] at f1 f2
    exact s.inj j k b h1 h2 f1 f2
  · by_cases e : j = i
    · subst e
      rw [List.getElem?_set_self il] at h2
      cases h2
      rw [hi] at h1; cases h1
      exact r
    · rw [List.getElem?_set_ne (Ne.symm e)] at h2
      have q := s.ob j b ob1 h1 h2
      refine q.mono (Ext.write hu mu) fun hf => upd_ne fun z => e ?_
      subst z
      exact s.inj j i b h1 hi (by rw [h2]; exact hf) (by rw [hs]; exact f)
theorem Ext.writeAt {i : Nat} {a : Addr} {o : HO} {ob : Ob} (s : Sim K H μ S) (hi : μ[i]? = some a) (hs : S[i]? = some ob) (f : isFix (some ob) = false) : Ext K H μ (upd H a o) μ := by
  obtain ⟨u, hu, mu⟩ := (s.ob i a ob hi hs).there f
  exact Ext.write hu mu
end

/-! ### readings over trees -/
def OkV (K : PySem.W.Frag) (H : Hp) (μ : List Addr) (R : RD) (Q : VK) : Prop := ∀ d S' v μ' H', R d S' → Ext K H μ H' μ' → Sim K H' μ' S' → Rep K H' μ' d v → Q v H'
def OkB (K : PySem.W.Frag) (H : Hp) (μ : List Addr) (R : Bool → Sto → Prop) (Q : Bool → Hp → Prop) : Prop := ∀ b S' μ' H', R b S' → Ext K H μ H' μ' → Sim K H' μ' S' → Q b H'
def OkA (K : PySem.W.Frag) (H : Hp) (μ : List Addr) (n : Nat) (R : List D → Sto → Prop) (Q : List V → Hp → Prop) : Prop := ∀ ds S' vs μ' H', ds.length = n → R ds S' → Ext K H μ H' μ' → Sim K H' μ' S' → Reps K H' μ' ds vs → Q vs H'
def OkX (K : PySem.W.Frag) (H : Hp) (μ : List Addr) (R : RX) (E : XK) : Prop := ∀ x S' cls dx μ' H', R x S' → Ext K H μ H' μ' → Sim K H' μ' S' → RepX K H' μ' x cls dx → E cls dx H'
section
variable {K : PySem.W.Frag} {H H' : Hp} {μ μ' : List Addr}
theorem OkV.ext {R : RD} {Q : VK} (o : OkV K H μ R Q) (e : Ext K H μ H' μ') : OkV K H' μ' R Q := fun d S' v μ2 H2 h e2 => o d S' v μ2 H2 h (e.trans e2)
theorem OkB.ext {R : Bool → Sto → Prop} {Q : Bool → Hp → Prop} (o : OkB K H μ R Q) (e : Ext K H μ H' μ') : OkB K H' μ' R Q := fun d S' μ2 H2 h e2 => o d S' μ2 H2 h (e.trans e2)
theorem OkA.ext {n : Nat} {R : List D → Sto → Prop} {Q : List V → Hp → Prop} (o : OkA K H μ n R Q) (e : Ext K H μ H' μ') : OkA K H' μ' n R Q := fun d S' v μ2 H2 l h e2 => o d S' v μ2 H2 l h (e.trans e2)
theorem OkX.ext {R : RX} {E : XK} (o : OkX K H μ R E) (e : Ext K H μ H' μ') : OkX K H' μ' R E := fun d S' c dx μ2 H2 h e2 => o d S' c dx μ2 H2 h (e.trans e2)
end
abbrev wAt (W : WX) (σ : L2.St) : XK := fun c d H => W c d σ H
def dE (K : PySem.W.Frag) (W : WX) (t : TD) : TE := fun σ H Q => ∃ ρ μ S R Rx, At K σ H ρ μ S ∧ t Rx ρ S R ∧ OkV K H μ R Q ∧ OkX K H μ Rx (wAt W σ)
def dT (K : PySem.W.Frag) (W : WX) (t : TDT) : TT := fun σ H Q => ∃ ρ μ S R Rx, At K σ H ρ μ S ∧ t Rx ρ S R ∧ OkB K H μ R Q ∧ OkX K H μ Rx (wAt W σ)
def dA (K : PySem.W.Frag) (W : WX) (n : Nat) (t : TDA) : TA := fun σ H Q => ∃ ρ μ S R Rx, At K σ H ρ μ S ∧ t Rx ρ S R ∧ OkA K H μ n R Q ∧ OkX K H μ Rx (wAt W σ)
structure EndsOk (K : PySem.W.Frag) (W : WX) (H : Hp) (μ : List Addr) (E : DEnds) (Z : Ends) : Prop where
  nx : ∀ ρ' S' σ' μ' H', E.nx ρ' S' → Ext K H μ H' μ' → At K σ' H' ρ' μ' S' → Z.nx σ' H'
  rt : ∀ d S' v μ' H', E.rt d S' → Ext K H μ H' μ' → Sim K H' μ' S' → Rep K H' μ' d v → Z.rt v H'
  bk : ∀ ρ' S' σ' μ' H', E.bk ρ' S' → Ext K H μ H' μ' → At K σ' H' ρ' μ' S' → Z.bk σ' H'
  ct : ∀ ρ' S' σ' μ' H', E.ct ρ' S' → Ext K H μ H' μ' → At K σ' H' ρ' μ' S' → Z.ct σ' H'
  ex : ∀ x ρ' S' cls dx σ' μ' H', E.ex x ρ' S' → Ext K H μ H' μ' → At K σ' H' ρ' μ' S' → RepX K H' μ' x cls dx → W cls dx σ' H'
def dS (K : PySem.W.Frag) (W : WX) (t : TDS) : TS := fun Z σ H => ∃ ρ μ S E, At K σ H ρ μ S ∧ t E ρ S ∧ EndsOk K W H μ E Z
def dSp (K : PySem.W.Frag) (n : Nat) (sp : DSp) : Sp := fun vs H Q E => ∃ ds μ S R Rx, Sim K H μ S ∧ Reps K H μ ds vs ∧ ds.length = n ∧ sp ds S R Rx ∧ OkV K H μ R Q ∧ OkX K H μ Rx E
theorem EndsOk.ext {K : PySem.W.Frag} {W : WX} {H H' : Hp} {μ μ' : List Addr} {E : DEnds} {Z : Ends} (k : EndsOk K W H μ E Z) (e : Ext K H μ H' μ') : EndsOk K W H' μ' E Z :=
  ⟨fun _ _ _ _ _ h e2 => k.nx _ _ _ _ _ h (e.trans e2), fun _ _ _ _ _ h e2 => k.rt _ _ _ _ _ h (e.trans e2), fun _ _ _ _ _ h e2 => k.bk _ _ _ _ _ h (e.trans e2),
   fun _ _ _ _ _ h e2 => k.ct _ _ _ _ _ h (e.trans e2), fun _ _ _ _ _ _ _ _ h e2 => k.ex _ _ _ _ _ _ _ _ h (e.trans e2)⟩
/-- what is wanted of an exception within an expression of a statement -/
theorem EndsOk.x {K : PySem.W.Frag} {W : WX} {H : Hp} {μ : List Addr} {E : DEnds} {Z : Ends} {σ : L2.St} {ρ : Ev} (k : EndsOk K W H μ E Z) (r : RepE K H μ ρ σ) : OkX K H μ (fun x S => E.ex x ρ S) (wAt W σ) :=
  fun x S' cls dx μ' H' h e s rx => k.ex x ρ S' cls dx σ μ' H' h e ⟨r.mono e, s⟩ rx

theorem _root_.L2.PE.imp {X : Cx} {e : Expr} {t t' : TE} (h : PE X e t) (i : ∀ σ H Q, t' σ H Q → t σ H Q) : PE X e t' := ⟨fun pins s σ H Q I q => h.run pins s σ H Q I (i σ H Q q)⟩
theorem _root_.L2.PT.imp {X : Cx} {e : Expr} {t t' : TT} (h : PT X e t) (i : ∀ σ H Q, t' σ H Q → t σ H Q) : PT X e t' := ⟨fun pins s σ H Q I q => h.run pins s σ H Q I (i σ H Q q)⟩
theorem _root_.L2.PA.imp {X : Cx} {e : List Expr} {t t' : TA} (h : PA X e t) (i : ∀ σ H Q, t' σ H Q → t σ H Q) : PA X e t' := ⟨fun pos pins s σ H Q I q => h.run pos pins s σ H Q I (i σ H Q q)⟩
theorem _root_.L2.PS.imp {X : Cx} {e : Stmt} {t t' : TS} (h : PS X e t) (i : ∀ D σ H, t' D σ H → t D σ H) : PS X e t' := ⟨fun pins s σ H D I q => h.run pins s σ H D I (i D σ H q)⟩
theorem _root_.L2.PSs.imp {X : Cx} {e : List Stmt} {t t' : TS} (h : PSs X e t) (i : ∀ D σ H, t' D σ H → t D σ H) : PSs X e t' := ⟨fun pins s σ H D I q => h.run pins s σ H D I (i D σ H q)⟩

/-! ### the store's lists, looked at (what they unfold to is told by lst_at, fix_at, mlst_at alone) -/
inductive lstAt (n : Nat) (S : Sto) (k : List D → Prop) : Prop
  | mk (xs : List D) (h : S[n]? = some (.lst xs) ∨ S[n]? = some (.fix xs)) (hk : k xs)
inductive mlstAt (n : Nat) (S : Sto) (k : List D → Prop) : Prop
  | mk (xs : List D) (h : S[n]? = some (.lst xs)) (hk : k xs)
inductive iterAt (n : Nat) (S : Sto) (k : List D → (Sto → Prop) → Prop) : Prop
  | lst (xs : List D) (h : S[n]? = some (.lst xs)) (hk : k xs fun S => S[n]? = some (.lst xs))
  | fix (xs : List D) (h : S[n]? = some (.fix xs)) (hk : k xs fun S => S[n]? = some (.fix xs))
section
variable {n : Nat} {S : Sto} {xs : List D} {k : List D → Prop} {j : List D → (Sto → Prop) → Prop}
theorem lst_at (h : S[n]? = some (.lst xs)) (hk : k xs) : lstAt n S k := .mk xs (.inl h) hk
theorem fix_at (h : S[n]? = some (.fix xs)) (hk : k xs) : lstAt n S k := .mk xs (.inr h) hk
theorem mlst_at (h : S[n]? = some (.lst xs)) (hk : k xs) : mlstAt n S k := .mk xs h hk
theorem iter_at (h : S[n]? = some (.lst xs)) (hk : j xs fun S => S[n]? = some (.lst xs)) : iterAt n S j := .lst xs h hk
theorem iter_fix (h : S[n]? = some (.fix xs)) (hk : j xs fun S => S[n]? = some (.fix xs)) : iterAt n S j := .fix xs h hk
theorem lst_inv (h : lstAt n S k) : ∃ xs, (S[n]? = some (.lst xs) ∨ S[n]? = some (.fix xs)) ∧ k xs := by
  cases h with | mk xs h hk => exact ⟨xs, h, hk⟩
theorem mlst_inv (h : mlstAt n S k) : ∃ xs, S[n]? = some (.lst xs) ∧ k xs := by
  cases h with | mk xs h hk => exact ⟨xs, h, hk⟩
theorem iter_inv (h : iterAt n S j) : ∃ xs, (S[n]? = some (.lst xs) ∧ j xs fun S => S[n]? = some (.lst xs)) ∨ (S[n]? = some (.fix xs) ∧ j xs fun S => S[n]? = some (.fix xs)) := by
  cases h with
  | lst xs h hk => exact ⟨xs, .inl ⟨h, hk⟩⟩
  | fix xs h hk => exact ⟨xs, .inr ⟨h, hk⟩⟩
theorem Sim.lstR {K : PySem.W.Frag} {H : Hp} {μ : List Addr} {p : Addr} (s : Sim K H μ S) (h : μ[n]? = some p) (e : S[n]? = some (.lst xs) ∨ S[n]? = some (.fix xs)) : ∃ vs, SqL K H p vs ∧ Reps K H μ xs vs := by
  rcases e with e | e
  · obtain ⟨vs, hv, q⟩ := s.ob n p _ h e
    exact ⟨vs, SqL.of hv, q⟩
  · obtain ⟨vs, hv, q⟩ := s.ob n p _ h e
    exact ⟨vs, hv.sql, q⟩
end
/-- the item at a place -/
inductive ixAt (xs : List D) (i : Int) (k : D → Prop) : Prop
  | mk (d : D) (h : L2.atI xs i = some d) (hk : k d)
theorem ix_at {xs : List D} {i : Int} {k : D → Prop} {d : D} (h : L2.atI xs i = some d) (hk : k d) : ixAt xs i k := .mk d h hk
theorem ix_inv {xs : List D} {i : Int} {k : D → Prop} (h : ixAt xs i k) : ∃ d, L2.atI xs i = some d ∧ k d := by
  cases h with | mk d h hk => exact ⟨d, h, hk⟩
end DL
namespace DL
open PySem PySem.Spec PyProof.Rows L2

abbrev OD := D → D → Sto → RD → Prop
abbrev OU := D → Sto → RD → Prop
abbrev OC := List D → Sto → RD → Prop
/-! ### readings -/
def eVar (i : Nat) : TD := fun _ ρ S R => match ρ[i]? with
  | some (some d) => R d S
  | _ => False
def eC (d : D) : TD := fun _ _ S R => R d S
def e1 (f : OU) (ta : TD) : TD := fun Rx ρ S R => ta Rx ρ S fun x S1 => f x S1 R
def e2 (f : OD) (ta tb : TD) : TD := fun Rx ρ S R => ta Rx ρ S fun x S1 => tb Rx ρ S1 fun y S2 => f x y S2 R
def aNil : TDA := fun _ _ S R => R [] S
def aCons (ta : TD) (tr : TDA) : TDA := fun Rx ρ S R => ta Rx ρ S fun x S1 => tr Rx ρ S1 fun xs S2 => R (x :: xs) S2
def eTup (t : TDA) : TD := fun Rx ρ S R => t Rx ρ S fun xs S1 => xs.length ≤ sizeLine ∧ R (.tup xs) S1
def eLst (t : TDA) : TD := fun Rx ρ S R => t Rx ρ S fun xs S1 => xs.length ≤ sizeLine ∧ R (.ref S1.length) (S1 ++ [.lst xs])
def eB (f : OC) (t : TDA) : TD := fun Rx ρ S R => t Rx ρ S fun xs S1 => f xs S1 R
/-- a call, held shut -/
inductive Cal (sp : DSp) (xs : List D) (S : Sto) (R : RD) (Rx : RX) : Prop
  | mk (h : sp xs S R Rx)
theorem Cal.out {sp : DSp} {xs : List D} {S : Sto} {R : RD} {Rx : RX} (h : Cal sp xs S R Rx) : sp xs S R Rx := by
  cases h with | mk h => exact h
def eCall (sp : DSp) (t : TDA) : TD := fun Rx ρ S R => t Rx ρ S fun xs S1 => Cal sp xs S1 R Rx
def pick {α : Type} (π : List Nat) (l : List α) : List α := π.filterMap fun i => l[i]?
def eCallK (sp : DSp) (π : List Nat) (t tk : TDA) : TD := fun Rx ρ S R => t Rx ρ S fun xs S1 => tk Rx ρ S1 fun zs S2 => Cal sp (pick π (xs ++ zs)) S2 R Rx
/-- the truth of a value -/
def truD (d : D) (S : Sto) (R : Bool → Prop) : Prop := match d with
  | .non => R false
  | .bl b => R b
  | .int i => R (i != 0)
  | .str x => x.length ≤ sizeLine ∧ R ((x.length : Int) != 0)
  | .tup xs => R (!xs.isEmpty)
  | .ref n => lstAt n S fun xs => R (!xs.isEmpty)
def tTru (t : TD) : TDT := fun Rx ρ S R => t Rx ρ S fun d S1 => truD d S1 fun b => R b S1
def tAndD (t u : TDT) : TDT := fun Rx ρ S R => t Rx ρ S fun b S1 => ift b (u Rx ρ S1 R) (R false S1)
def tOrD (t u : TDT) : TDT := fun Rx ρ S R => t Rx ρ S fun b S1 => ift b (R true S1) (u Rx ρ S1 R)
def tNotD (t : TDT) : TDT := fun Rx ρ S R => t Rx ρ S fun b S1 => R (!b) S1
def eAnd (ta tb : TD) : TD := fun Rx ρ S R => ta Rx ρ S fun x S1 => truD x S1 fun b => ift b (tb Rx ρ S1 R) (R x S1)
def eOr (ta tb : TD) : TD := fun Rx ρ S R => ta Rx ρ S fun x S1 => truD x S1 fun b => ift b (R x S1) (tb Rx ρ S1 R)
def eNot (ta : TD) : TD := fun Rx ρ S R => ta Rx ρ S fun x S1 => truD x S1 fun b => R (.bl (!b)) S1
def eIf (c : TDT) (ta tb : TD) : TD := fun Rx ρ S R => c Rx ρ S fun b S1 => ift b (ta Rx ρ S1 R) (tb Rx ρ S1 R)

section
variable {X : Cx} {W : WX} {a b c : Expr} {ta tb : TD} {tc td : TDT} {pos : Pos} {es rest : List Expr} {tr : TDA}

theorem de_var (i : Nat) {x : Str} {pos : Pos} (hN : X.N[i]? = some x := by rfl) (hv : Vis X.env.scope x := by first | exact Or.inl rfl | exact Or.inr (Or.inl rfl) | exact Or.inr (Or.inr rfl)) (hd : (x == ("__debug__" : Str)) = false := by decide)
    (hcd : (x == ("__classdict__" : Str)) = false := by decide) : PE X (.Name x pos) (dE X.K W (eVar i)) :=
  (pe_var hN hv hd hcd).imp fun σ H Q ⟨ρ, μ, S, R, Rx, at_, h, ok, ox⟩ => by
    unfold eVar at h
    split at h
    · rename_i d e
      obtain ⟨v, h1, h2⟩ := at_.env.at_ i d e
      exact ⟨v, h1, ok _ _ _ _ _ h Ext.refl at_.sim h2⟩
    · exact h.elim
theorem de_C {v : V} {d : D} {e : Expr} (he : PE X e (tC v)) (hr : ∀ H μ, Rep X.K H μ d v) : PE X e (dE X.K W (eC d)) :=
  he.imp fun σ H Q ⟨ρ, μ, S, R, Rx, at_, h, ok, ox⟩ => ok _ _ _ _ _ h Ext.refl at_.sim (hr _ _)
theorem de_int {i j pos} : PE X (.Constant (.int i) j pos) (dE X.K W (eC (.int i))) := de_C pe_int fun _ _ => .int i
theorem de_bl {i j pos} : PE X (.Constant (.bool i) j pos) (dE X.K W (eC (.bl i))) := de_C pe_bl fun _ _ => .bl i
theorem de_non {j pos} : PE X (.Constant .none j pos) (dE X.K W (eC .non)) := de_C pe_non fun _ _ => .non
theorem de_str {i j pos} : PE X (.Constant (.str i) j pos) (dE X.K W (eC (.str i))) := de_C pe_str fun _ _ => .str i
/-- a constant of the module -/
theorem de_glob {x : Str} {v : V} {u : Value} {d : D} {pos : Pos} (hm : X.mg x = some u) (r : RelV v u) (hr : ∀ H μ, Rep X.K H μ d v) (hg : Gl X x := by rfl) (hd : (x == ("__debug__" : Str)) = false := by decide) : PE X (.Name x pos) (dE X.K W (eC d)) :=
  de_C (pe_glob hg hm r hd) hr

/-! ### two values -/
def Br2 (K : PySem.W.Frag) (r : R2) (f : OD) : Prop := ∀ x y S R vx vy μ H Q, Sim K H μ S → Rep K H μ x vx → Rep K H μ y vy → f x y S R → OkV K H μ R Q → r vx vy H Q
def Br1 (K : PySem.W.Frag) (r : V → Hp → VK → Prop) (f : OU) : Prop := ∀ x S R vx μ H Q, Sim K H μ S → Rep K H μ x vx → f x S R → OkV K H μ R Q → r vx H Q
def BrC (K : PySem.W.Frag) (r : List V → Hp → VK → Prop) (f : OC) : Prop := ∀ xs S R vs μ H Q, Sim K H μ S → Reps K H μ xs vs → f xs S R → OkV K H μ R Q → r vs H Q
theorem seq2 {K : PySem.W.Frag} {r : R2} {f : OD} (br : Br2 K r f) {σ : L2.St} {H : Hp} {Q : VK} (h : dE K W (e2 f ta tb) σ H Q) : tOp r (dE K W ta) (dE K W tb) σ H Q := by
  obtain ⟨ρ, μ, S, R, Rx, at_, h, ok, ox⟩ := h
  refine ⟨ρ, μ, S, _, Rx, at_, h, fun x S1 vx μ1 H1 h1 e1 s1 r1 => ?_, ox⟩
  refine ⟨ρ, μ1, S1, _, Rx, ⟨at_.env.mono e1, s1⟩, h1, fun y S2 vy μ2 H2 h2 e2 s2 r2 => ?_, ox.ext e1⟩
  exact br x y S2 R vx vy μ2 H2 Q s2 (r1.mono e2) r2 h2 (ok.ext (e1.trans e2))
theorem seq1 {K : PySem.W.Frag} {r : V → Hp → VK → Prop} {f : OU} (br : Br1 K r f) {σ : L2.St} {H : Hp} {Q : VK} (h : dE K W (e1 f ta) σ H Q) : tUn r (dE K W ta) σ H Q := by
  obtain ⟨ρ, μ, S, R, Rx, at_, h, ok, ox⟩ := h
  refine ⟨ρ, μ, S, _, Rx, at_, h, fun x S1 vx μ1 H1 h1 e1 s1 r1 => ?_, ox⟩
  exact br x S1 R vx μ1 H1 Q s1 r1 h1 (ok.ext e1)
theorem de_op {op : Operator} {r : R2} {f : OD} (ho : OpR X (binaryOp op) r) (br : Br2 X.K r f) (ha : PE X a (dE X.K W ta)) (hb : PE X b (dE X.K W tb)) : PE X (.BinOp a op b pos) (dE X.K W (e2 f ta tb)) :=
  (pe_op ho ha hb).imp fun _ _ _ h => seq2 br h
theorem de_un {op : UnaryOp} {r : V → Hp → VK → Prop} {f : OU} (ho : UnR X (unaryOp op) r) (br : Br1 X.K r f) (ha : PE X a (dE X.K W ta)) : PE X (.UnaryOp op a pos) (dE X.K W (e1 f ta)) :=
  (pe_un ho ha).imp fun _ _ _ h => seq1 br h
theorem de_cmp {op : CmpOp} {r : R2} {f : OD} (ho : OpR X (compareOp op) r) (br : Br2 X.K r f) (ha : PE X a (dE X.K W ta)) (hb : PE X b (dE X.K W tb)) (hm : behindInMarks op b = false) : PE X (.Compare a [op] [b] pos) (dE X.K W (e2 f ta tb)) :=
  (pe_cmpR ho ha hb hm).imp fun _ _ _ h => seq2 br h
theorem dt_cmp {op : CmpOp} {r : R2} {f : OD} (ho : OpR X (compareOp op) r) (br : Br2 X.K r f) (hf : ∀ x y S R, f x y S R → f x y S fun d S' => R d S' ∧ ∃ k, d = .bl k) (ha : PE X a (dE X.K W ta)) (hb : PE X b (dE X.K W tb)) (hm : behindInMarks op b = false) :
    PT X (.Compare a [op] [b] pos) (dT X.K W (tTru (e2 f ta tb))) := by
  refine (pt_cmpR ho ha hb hm).imp fun σ H Q h => ?_
  obtain ⟨ρ, μ, S, R, Rx, at_, h, ok, ox⟩ := h
  show tOp r (dE X.K W ta) (dE X.K W tb) σ H fun x H' => ∃ k, x = .bl k ∧ Q k H'
  refine ⟨ρ, μ, S, _, Rx, at_, h, fun x S1 vx μ1 H1 h1 e1 s1 r1 => ?_, ox⟩
  refine ⟨ρ, μ1, S1, _, Rx, ⟨at_.env.mono e1, s1⟩, h1, fun y S2 vy μ2 H2 h2 e2 s2 r2 => ?_, ox.ext e1⟩
  refine br x y S2 _ vx vy μ2 H2 _ s2 (r1.mono e2) r2 (hf _ _ _ _ h2) fun d S' v μ' H' hq e s r => ?_
  obtain ⟨hq, k, rfl⟩ := hq
  cases r
  exact ⟨k, rfl, ok _ _ _ _ hq ((e1.trans e2).trans e) s⟩
/-! ### ints, texts, tuples, lists -/
def addD : OD
  | .int i, .int j => fun S R => R (.int (i + j)) S
  | .str x, .str y => fun S R => x.length + y.length ≤ sizeLine ∧ R (.str (x ++ y)) S
  | .tup xs, .tup ys => fun S R => xs.length + ys.length ≤ sizeLine ∧ R (.tup (xs ++ ys)) S
  | .ref m, .ref n => fun S R => mlstAt m S fun xs => mlstAt n S fun ys => xs.length + ys.length ≤ sizeLine ∧ R (.ref S.length) (S ++ [.lst (xs ++ ys)])
  | _, _ => fun _ _ => False
abbrev rAddD (K : PySem.W.Frag) : R2 := fun x y H Q => rI0 (fun i j => .int (i + j)) x y H Q ∨ (fun x y H Q => (∃ i j, x = .str i ∧ y = .str j ∧ i.length + j.length ≤ sizeLine ∧ Q (.str (i ++ j)) H) ∨
  (fun x y H Q => rCatA K x y H Q ∨ rCat x y H Q) x y H Q) x y H Q
theorem op_addD : OpR X (binaryOp .Add) (rAddD X.K) := op_add.or (op_add_str.or (op_catA.or op_cat))
theorem Sim.lst {K : PySem.W.Frag} {H : Hp} {μ : List Addr} {S : Sto} {n : Nat} {p : Addr} {xs : List D} (s : Sim K H μ S) (h : μ[n]? = some p) (e : S[n]? = some (.lst xs)) : ∃ vs, H p = some (.lst vs) ∧ Reps K H μ xs vs := s.ob n p _ h e
theorem Sim.newLst {K : PySem.W.Frag} {H : Hp} {μ : List Addr} {S : Sto} {p : Addr} {xs : List D} {vs : List V} (s : Sim K H μ S) (hp : H p = none) (r : Reps K H μ xs vs) :
    Ext K H μ (upd H p (.lst vs)) (μ ++ [p]) ∧ Sim K (upd H p (.lst vs)) (μ ++ [p]) (S ++ [.lst xs]) ∧ Rep K (upd H p (.lst vs)) (μ ++ [p]) (.ref S.length) (.ref p) :=
  ⟨Ext.new hp, s.new hp ⟨vs, upd_same, r.mono (Ext.new hp)⟩, .ref (by rw [← s.len]; simp)⟩
theorem Sim.newTup {K : PySem.W.Frag} {H : Hp} {μ : List Addr} {S : Sto} {p : Addr} {xs : List D} {vs : List V} (s : Sim K H μ S) (hp : H p = none) (r : Reps K H μ xs vs) :
    Ext K H μ (upd H p (.tup vs)) μ ∧ Sim K (upd H p (.tup vs)) μ S ∧ Rep K (upd H p (.tup vs)) μ (.tup xs) (.ref p) :=
  have e : Ext K H μ (upd H p (.tup vs)) μ := Ext.fresh hp fun _ _ h => h
  ⟨e, s.tup hp, .tup (.inl (.inl upd_same)) (r.mono e)⟩
theorem Reps.nil_iff {K : PySem.W.Frag} {H : Hp} {μ : List Addr} {xs : List D} {vs : List V} (r : Reps K H μ xs vs) : xs = [] ↔ vs = [] := by
  have := r.length
  cases xs <;> cases vs <;> simp_all
theorem br_add : Br2 X.K (rAddD X.K) addD := by
  intro x y S R vx vy μ H Q s r1 r2 h ok
  unfold addD at h
  split at h
  · cases r1; cases r2
    exact .inl ⟨_, _, rfl, rfl, ok _ _ _ _ _ h Ext.refl s (.int _)⟩
  · cases r1; cases r2
    exact .inr (.inl ⟨_, _, rfl, rfl, h.1, ok _ _ _ _ _ h.2 Ext.refl s (.str _)⟩)
  · cases r1 with | tup t1 q1 =>
    cases r2 with | tup t2 q2 =>
    refine .inr (.inr (.inl ⟨_, _, _, _, rfl, rfl, t1, t2, by rw [← q1.length, ← q2.length]; exact h.1, fun e => ?_, fun e1 e2 => ?_, fun e1 e2 p hp => ?_⟩))
    · have e' := q1.nil_iff.mpr e
      subst e'
      exact ok _ _ _ _ _ h.2 Ext.refl s (.tup t2 q2)
    · have e' := q2.nil_iff.mpr e2
      subst e'
      rw [List.append_nil] at h
      exact ok _ _ _ _ _ h.2 Ext.refl s (.tup t1 q1)
    · obtain ⟨e, s', r⟩ := s.newTup hp (q1.append q2)
      exact ok _ _ _ _ _ h.2 e s' r
  · rename_i m n
    cases r1 with | ref p1 =>
    cases r2 with | ref p2 =>
    obtain ⟨xs, g1, h⟩ := mlst_inv h
    obtain ⟨ys, g2, h⟩ := mlst_inv h
    obtain ⟨vs, hv, qv⟩ := s.lst p1 g1
    obtain ⟨us, hu, qu⟩ := s.lst p2 g2
    refine .inr (.inr (.inr ⟨_, _, _, _, rfl, rfl, hv, hu, by rw [← qv.length, ← qu.length]; exact h.1, fun p hp => ?_⟩))
    obtain ⟨e, s', r⟩ := s.newLst hp (qv.append qu)
    exact ok _ _ _ _ _ h.2 e s' r
  · exact h.elim
theorem de_add (ha : PE X a (dE X.K W ta)) (hb : PE X b (dE X.K W tb)) : PE X (.BinOp a .Add b pos) (dE X.K W (e2 addD ta tb)) := de_op op_addD br_add ha hb
def subD : OD
  | .int i, .int j => fun S R => R (.int (i - j)) S
  | _, _ => fun _ _ => False
theorem br_sub : Br2 X.K (rI0 fun i j => .int (i - j)) subD := by
  intro x y S R vx vy μ H Q s r1 r2 h ok
  unfold subD at h
  split at h
  · cases r1; cases r2
    exact ⟨_, _, rfl, rfl, ok _ _ _ _ _ h Ext.refl s (.int _)⟩
  · exact h.elim
theorem de_sub (ha : PE X a (dE X.K W ta)) (hb : PE X b (dE X.K W tb)) : PE X (.BinOp a .Sub b pos) (dE X.K W (e2 subD ta tb)) := de_op op_sub br_sub ha hb
def mulD : OD
  | .int i, .int j => fun S R => i.natAbs.log2 + j.natAbs.log2 < 1000000 ∧ R (.int (i * j)) S
  | .ref m, .int k => fun S R => mlstAt m S fun xs => (-(2 ^ 63) ≤ k ∧ k < 2 ^ 63 ∧ xs.length * k.toNat ≤ sizeLine) ∧ R (.ref S.length) (S ++ [.lst (List.replicate k.toNat xs).flatten])
  | _, _ => fun _ _ => False
theorem br_mul : Br2 X.K (fun x y H Q => rI CMulW (fun i j => .int (i * j)) x y H Q ∨ rRep x y H Q) mulD := by
  intro x y S R vx vy μ H Q s r1 r2 h ok
  unfold mulD at h
  split at h
  · cases r1; cases r2
    exact .inl ⟨_, _, rfl, rfl, h.1, ok _ _ _ _ _ h.2 Ext.refl s (.int _)⟩
  · cases r1 with | ref p1 =>
    cases r2
    obtain ⟨xs, g1, h⟩ := mlst_inv h
    obtain ⟨vs, hv, qv⟩ := s.lst p1 g1
    obtain ⟨⟨h1, h2, h3⟩, h⟩ := h
    refine .inr ⟨_, _, _, rfl, rfl, hv, h1, h2, by rw [← qv.length]; exact h3, fun p hp => ?_⟩
    obtain ⟨e, s', r⟩ := s.newLst hp (qv.rep _)
    exact ok _ _ _ _ _ h e s' r
  · exact h.elim
theorem de_mul (ha : PE X a (dE X.K W ta)) (hb : PE X b (dE X.K W tb)) : PE X (.BinOp a .Mult b pos) (dE X.K W (e2 mulD ta tb)) := de_op (op_mulW.or op_rep) br_mul ha hb
def divD : OD
  | .int i, .int j => fun S R => (0 < j ∧ j.natAbs.log2 < 9000) ∧ R (.int (i / j)) S
  | _, _ => fun _ _ => False
theorem br_div : Br2 X.K (rI CDivW fun i j => .int (i / j)) divD := by
  intro x y S R vx vy μ H Q s r1 r2 h ok
  unfold divD at h
  split at h
  · cases r1; cases r2
    exact ⟨_, _, rfl, rfl, h.1, ok _ _ _ _ _ h.2 Ext.refl s (.int _)⟩
  · exact h.elim
theorem de_div (ha : PE X a (dE X.K W ta)) (hb : PE X b (dE X.K W tb)) : PE X (.BinOp a .FloorDiv b pos) (dE X.K W (e2 divD ta tb)) := de_op op_fdivW br_div ha hb
def modD : OD
  | .int i, .int j => fun S R => 0 < j ∧ R (.int (i % j)) S
  | _, _ => fun _ _ => False
theorem br_mod : Br2 X.K (rI (fun _ j => 0 < j) fun i j => .int (i % j)) modD := by
  intro x y S R vx vy μ H Q s r1 r2 h ok
  unfold modD at h
  split at h
  · cases r1; cases r2
    exact ⟨_, _, rfl, rfl, h.1, ok _ _ _ _ _ h.2 Ext.refl s (.int _)⟩
  · exact h.elim
theorem de_mod (ha : PE X a (dE X.K W ta)) (hb : PE X b (dE X.K W tb)) : PE X (.BinOp a .Mod b pos) (dE X.K W (e2 modD ta tb)) := de_op op_mod br_mod ha hb
def powD : OD
  | .int i, .int j => fun S R => (0 ≤ j ∧ j ≤ 1000000 ∧ i.natAbs < 2 ^ 64) ∧ R (.int (i ^ j.toNat)) S
  | _, _ => fun _ _ => False
theorem br_pow : Br2 X.K (rI CPow fun i j => .int (i ^ j.toNat)) powD := by
  intro x y S R vx vy μ H Q s r1 r2 h ok
  unfold powD at h
  split at h
  · cases r1; cases r2
    exact ⟨_, _, rfl, rfl, h.1, ok _ _ _ _ _ h.2 Ext.refl s (.int _)⟩
  · exact h.elim
theorem de_pow (ha : PE X a (dE X.K W ta)) (hb : PE X b (dE X.K W tb)) : PE X (.BinOp a .Pow b pos) (dE X.K W (e2 powD ta tb)) := de_op op_pow br_pow ha hb
def negD : OU
  | .int i => fun S R => R (.int (-i)) S
  | _ => fun _ _ => False
theorem br_neg : Br1 X.K (rU fun i => .int (-i)) negD := by
  intro x S R vx μ H Q s r1 h ok
  unfold negD at h
  split at h
  · cases r1
    exact ⟨_, rfl, ok _ _ _ _ _ h Ext.refl s (.int _)⟩
  · exact h.elim
theorem de_neg (ha : PE X a (dE X.K W ta)) : PE X (.UnaryOp .USub a pos) (dE X.K W (e1 negD ta)) := de_un un_neg br_neg ha

/-! ### comparisons -/
def ltD : OD
  | .int i, .int j => fun S R => R (.bl (decide (i < j))) S
  | _, _ => fun _ _ => False
def leD : OD
  | .int i, .int j => fun S R => R (.bl (decide (i ≤ j))) S
  | _, _ => fun _ _ => False
def gtD : OD
  | .int i, .int j => fun S R => R (.bl (decide (j < i))) S
  | _, _ => fun _ _ => False
def geD : OD
  | .int i, .int j => fun S R => R (.bl (decide (j ≤ i))) S
  | _, _ => fun _ _ => False
theorem br_lt : Br2 X.K (rI0 fun i j => .bl (decide (i < j))) ltD := by
  intro x y S R vx vy μ H Q s r1 r2 h ok
  unfold ltD at h
  split at h
  · cases r1; cases r2
    exact ⟨_, _, rfl, rfl, ok _ _ _ _ _ h Ext.refl s (.bl _)⟩
  · exact h.elim
theorem br_le : Br2 X.K (rI0 fun i j => .bl (decide (i ≤ j))) leD := by
  intro x y S R vx vy μ H Q s r1 r2 h ok
  unfold leD at h
  split at h
  · cases r1; cases r2
    exact ⟨_, _, rfl, rfl, ok _ _ _ _ _ h Ext.refl s (.bl _)⟩
  · exact h.elim
theorem br_gt : Br2 X.K (rI0 fun i j => .bl (decide (j < i))) gtD := by
  intro x y S R vx vy μ H Q s r1 r2 h ok
  unfold gtD at h
  split at h
  · cases r1; cases r2
    exact ⟨_, _, rfl, rfl, ok _ _ _ _ _ h Ext.refl s (.bl _)⟩
  · exact h.elim
theorem br_ge : Br2 X.K (rI0 fun i j => .bl (decide (j ≤ i))) geD := by
  intro x y S R vx vy μ H Q s r1 r2 h ok
  unfold geD at h
  split at h
  · cases r1; cases r2
    exact ⟨_, _, rfl, rfl, ok _ _ _ _ _ h Ext.refl s (.bl _)⟩
  · exact h.elim
theorem bl_lt : ∀ x y S (R : RD), ltD x y S R → ltD x y S fun d S' => R d S' ∧ ∃ k, d = .bl k := by
  intro x y S R h; unfold ltD at h ⊢; split at h <;> first | exact ⟨h, _, rfl⟩ | exact h.elim
theorem bl_le : ∀ x y S (R : RD), leD x y S R → leD x y S fun d S' => R d S' ∧ ∃ k, d = .bl k := by
  intro x y S R h; unfold leD at h ⊢; split at h <;> first | exact ⟨h, _, rfl⟩ | exact h.elim
theorem bl_gt : ∀ x y S (R : RD), gtD x y S R → gtD x y S fun d S' => R d S' ∧ ∃ k, d = .bl k := by
  intro x y S R h; unfold gtD at h ⊢; split at h <;> first | exact ⟨h, _, rfl⟩ | exact h.elim
theorem bl_ge : ∀ x y S (R : RD), geD x y S R → geD x y S fun d S' => R d S' ∧ ∃ k, d = .bl k := by
  intro x y S R h; unfold geD at h ⊢; split at h <;> first | exact ⟨h, _, rfl⟩ | exact h.elim
theorem de_lt (ha : PE X a (dE X.K W ta)) (hb : PE X b (dE X.K W tb)) : PE X (.Compare a [.Lt] [b] pos) (dE X.K W (e2 ltD ta tb)) := de_cmp op_lt br_lt ha hb (nomark _)
theorem de_le (ha : PE X a (dE X.K W ta)) (hb : PE X b (dE X.K W tb)) : PE X (.Compare a [.LtE] [b] pos) (dE X.K W (e2 leD ta tb)) := de_cmp op_le br_le ha hb (nomark _)
theorem de_gt (ha : PE X a (dE X.K W ta)) (hb : PE X b (dE X.K W tb)) : PE X (.Compare a [.Gt] [b] pos) (dE X.K W (e2 gtD ta tb)) := de_cmp op_gt br_gt ha hb (nomark _)
theorem de_ge (ha : PE X a (dE X.K W ta)) (hb : PE X b (dE X.K W tb)) : PE X (.Compare a [.GtE] [b] pos) (dE X.K W (e2 geD ta tb)) := de_cmp op_ge br_ge ha hb (nomark _)
theorem dt_lt (ha : PE X a (dE X.K W ta)) (hb : PE X b (dE X.K W tb)) : PT X (.Compare a [.Lt] [b] pos) (dT X.K W (tTru (e2 ltD ta tb))) := dt_cmp op_lt br_lt bl_lt ha hb (nomark _)
theorem dt_le (ha : PE X a (dE X.K W ta)) (hb : PE X b (dE X.K W tb)) : PT X (.Compare a [.LtE] [b] pos) (dT X.K W (tTru (e2 leD ta tb))) := dt_cmp op_le br_le bl_le ha hb (nomark _)
theorem dt_gt (ha : PE X a (dE X.K W ta)) (hb : PE X b (dE X.K W tb)) : PT X (.Compare a [.Gt] [b] pos) (dT X.K W (tTru (e2 gtD ta tb))) := dt_cmp op_gt br_gt bl_gt ha hb (nomark _)
theorem dt_ge (ha : PE X a (dE X.K W ta)) (hb : PE X b (dE X.K W tb)) : PT X (.Compare a [.GtE] [b] pos) (dT X.K W (tTru (e2 geD ta tb))) := dt_cmp op_ge br_ge bl_ge ha hb (nomark _)
/-- the scalars that == tells apart -/
def scalD : D → D → Option Bool
  | .non, .non => some true
  | .non, .int _ => some false | .int _, .non => some false
  | .non, .bl _ => some false | .bl _, .non => some false
  | .non, .str _ => some false | .str _, .non => some false
  | .int i, .int j => some (decide (i = j))
  | .bl i, .bl j => some (decide (i = j))
  | .str i, .str j => some (decide (i = j))
  | .int _, .str _ => some false | .str _, .int _ => some false
  | .bl _, .str _ => some false | .str _, .bl _ => some false
  | _, _ => none
def eqD : OD := fun x y S R => match scalD x y with
  | some k => R (.bl k) S
  | none => False
def neD : OD := fun x y S R => match scalD x y with
  | some k => R (.bl (!k)) S
  | none => False
theorem scal_of {K : PySem.W.Frag} {H : Hp} {μ : List Addr} {x y : D} {vx vy : V} {k : Bool} (r1 : Rep K H μ x vx) (r2 : Rep K H μ y vy) (h : scalD x y = some k) : scal vx vy = true ∧ decide (vx = vy) = k := by
  unfold scalD at h
  split at h <;> (try cases h) <;> cases r1 <;> cases r2 <;> simp [scal]
theorem br_eq : Br2 X.K rEq eqD := by
  intro x y S R vx vy μ H Q s r1 r2 h ok
  unfold eqD at h
  split at h
  · rename_i k e
    obtain ⟨h1, h2⟩ := scal_of r1 r2 e
    refine ⟨h1, ?_⟩
    rw [h2]
    exact ok _ _ _ _ _ h Ext.refl s (.bl _)
  · exact h.elim
theorem br_ne : Br2 X.K rNe neD := by
  intro x y S R vx vy μ H Q s r1 r2 h ok
  unfold neD at h
  split at h
  · rename_i k e
    obtain ⟨h1, h2⟩ := scal_of r1 r2 e
    refine ⟨h1, ?_⟩
    rw [h2]
    exact ok _ _ _ _ _ h Ext.refl s (.bl _)
  · exact h.elim
theorem bl_eq : ∀ x y S (R : RD), eqD x y S R → eqD x y S fun d S' => R d S' ∧ ∃ k, d = .bl k := by
  intro x y S R h; unfold eqD at h ⊢; split at h <;> first | exact ⟨h, _, rfl⟩ | exact h.elim
theorem bl_ne : ∀ x y S (R : RD), neD x y S R → neD x y S fun d S' => R d S' ∧ ∃ k, d = .bl k := by
  intro x y S R h; unfold neD at h ⊢; split at h <;> first | exact ⟨h, _, rfl⟩ | exact h.elim
theorem de_eq (ha : PE X a (dE X.K W ta)) (hb : PE X b (dE X.K W tb)) : PE X (.Compare a [.Eq] [b] pos) (dE X.K W (e2 eqD ta tb)) := de_cmp op_eq br_eq ha hb (nomark _)
theorem de_ne (ha : PE X a (dE X.K W ta)) (hb : PE X b (dE X.K W tb)) : PE X (.Compare a [.NotEq] [b] pos) (dE X.K W (e2 neD ta tb)) := de_cmp op_ne br_ne ha hb (nomark _)
theorem dt_eq (ha : PE X a (dE X.K W ta)) (hb : PE X b (dE X.K W tb)) : PT X (.Compare a [.Eq] [b] pos) (dT X.K W (tTru (e2 eqD ta tb))) := dt_cmp op_eq br_eq bl_eq ha hb (nomark _)
theorem dt_ne (ha : PE X a (dE X.K W ta)) (hb : PE X b (dE X.K W tb)) : PT X (.Compare a [.NotEq] [b] pos) (dT X.K W (tTru (e2 neD ta tb))) := dt_cmp op_ne br_ne bl_ne ha hb (nomark _)
end
end DL
namespace DL
open PySem PySem.Spec PyProof.Rows L2

section
variable {X : Cx} {W : WX} {a b c : Expr} {ta tb : TD} {tc td : TDT} {pos : Pos} {es rest : List Expr} {tr : TDA} {n : Nat}
/-! ### truth -/
theorem Sim.fix {K : PySem.W.Frag} {H : Hp} {μ : List Addr} {S : Sto} {n : Nat} {p : Addr} {xs : List D} (s : Sim K H μ S) (h : μ[n]? = some p) (e : S[n]? = some (.fix xs)) : ∃ vs, FixL K H p vs ∧ Reps K H μ xs vs := s.ob n p _ h e
theorem Reps.isEmpty {K : PySem.W.Frag} {H : Hp} {μ : List Addr} {xs : List D} {vs : List V} (r : Reps K H μ xs vs) : xs.isEmpty = vs.isEmpty := by
  cases r <;> rfl
theorem tru_of {K : PySem.W.Frag} {H : Hp} {μ : List Addr} {S : Sto} {d : D} {v : V} {R : Bool → Prop} (s : Sim K H μ S) (r : Rep K H μ d v) (h : truD d S R) : ∃ k, TruV K v H k ∧ R k := by
  unfold truD at h
  cases r with
  | non => exact ⟨_, rfl, h⟩
  | bl b => exact ⟨_, rfl, h⟩
  | int i => exact ⟨_, rfl, h⟩
  | str x => exact ⟨_, ⟨h.1, rfl⟩, h.2⟩
  | tup t q => exact ⟨_, .inr (.inl ⟨_, t, rfl⟩), by rw [← q.isEmpty]; exact h⟩
  | ref g =>
    obtain ⟨xs, e, h⟩ := lst_inv h
    obtain ⟨vs, hv, q⟩ := s.lstR g e
    exact ⟨_, .inl ⟨_, hv, rfl⟩, by rw [← q.isEmpty]; exact h⟩
theorem dt_tru (ha : PE X a (dE X.K W ta)) (he : ∀ whole, isTrue a X.env whole = (do let v ← whole; standAt a.pos; holding [v] (truthy v)) := by intro _; rfl) : PT X a (dT X.K W (tTru ta)) := by
  refine (pt_truth ha he).imp fun σ H Q ⟨ρ, μ, S, R, Rx, at_, h, ok, ox⟩ => ?_
  refine ⟨ρ, μ, S, _, Rx, at_, h, fun d S' v μ' H' h' e s r => ?_, ox⟩
  obtain ⟨k, h1, h2⟩ := tru_of s r h'
  exact ⟨k, h1, ok _ _ _ _ h2 e s⟩
theorem dt_not (ha : PT X a (dT X.K W tc)) : PT X (.UnaryOp .Not a pos) (dT X.K W (tNotD tc)) :=
  (pt_not ha).imp fun σ H Q ⟨ρ, μ, S, R, Rx, at_, h, ok, ox⟩ => ⟨ρ, μ, S, _, Rx, at_, h, fun b S' μ' H' h' e s => ok _ _ _ _ h' e s, ox⟩
theorem _root_.L2.PW.imp {X : Cx} {e : Expr} {t t' : TT} (h : PW X e t) (i : ∀ σ H Q, t' σ H Q → t σ H Q) : PW X e t' := ⟨fun wh pins s σ H Q I q => h.run wh pins s σ H Q I (i σ H Q q)⟩
theorem dw_and (ha : PT X a (dT X.K W tc)) (hb : PW X (.BoolOp .And (b :: rest) pos) (dT X.K W td)) : PW X (.BoolOp .And (a :: b :: rest) pos) (dT X.K W (tAndD tc td)) := by
  refine (pw_and ha hb).imp fun σ H Q ⟨ρ, μ, S, R, Rx, at_, h, ok, ox⟩ => ?_
  refine ⟨ρ, μ, S, _, Rx, at_, h, fun b S' μ' H' h' e s => ?_, ox⟩
  cases b with
  | true => exact ⟨ρ, μ', S', R, Rx, ⟨at_.env.mono e, s⟩, ift_t h', ok.ext e, ox.ext e⟩
  | false => exact ok _ _ _ _ (ift_f h') e s
theorem dw_or (ha : PT X a (dT X.K W tc)) (hb : PW X (.BoolOp .Or (b :: rest) pos) (dT X.K W td)) : PW X (.BoolOp .Or (a :: b :: rest) pos) (dT X.K W (tOrD tc td)) := by
  refine (pw_or ha hb).imp fun σ H Q ⟨ρ, μ, S, R, Rx, at_, h, ok, ox⟩ => ?_
  refine ⟨ρ, μ, S, _, Rx, at_, h, fun b S' μ' H' h' e s => ?_, ox⟩
  cases b with
  | false => exact ⟨ρ, μ', S', R, Rx, ⟨at_.env.mono e, s⟩, ift_f h', ok.ext e, ox.ext e⟩
  | true => exact ok _ _ _ _ (ift_t h') e s
theorem de_and (ha : PE X a (dE X.K W ta)) (hb : PE X (.BoolOp .And (b :: rest) pos) (dE X.K W tb)) : PE X (.BoolOp .And (a :: b :: rest) pos) (dE X.K W (eAnd ta tb)) := by
  refine (pe_andT ha hb).imp fun σ H Q ⟨ρ, μ, S, R, Rx, at_, h, ok, ox⟩ => ?_
  refine ⟨ρ, μ, S, _, Rx, at_, h, fun d S' v μ' H' h' e s r => ?_, ox⟩
  obtain ⟨k, h1, h2⟩ := tru_of s r h'
  refine ⟨k, h1, ?_⟩
  cases k with
  | true => exact ⟨ρ, μ', S', R, Rx, ⟨at_.env.mono e, s⟩, ift_t h2, ok.ext e, ox.ext e⟩
  | false => exact ok _ _ _ _ _ (ift_f h2) e s r
theorem de_or (ha : PE X a (dE X.K W ta)) (hb : PE X (.BoolOp .Or (b :: rest) pos) (dE X.K W tb)) : PE X (.BoolOp .Or (a :: b :: rest) pos) (dE X.K W (eOr ta tb)) := by
  refine (pe_orT ha hb).imp fun σ H Q ⟨ρ, μ, S, R, Rx, at_, h, ok, ox⟩ => ?_
  refine ⟨ρ, μ, S, _, Rx, at_, h, fun d S' v μ' H' h' e s r => ?_, ox⟩
  obtain ⟨k, h1, h2⟩ := tru_of s r h'
  refine ⟨k, h1, ?_⟩
  cases k with
  | false => exact ⟨ρ, μ', S', R, Rx, ⟨at_.env.mono e, s⟩, ift_f h2, ok.ext e, ox.ext e⟩
  | true => exact ok _ _ _ _ _ (ift_t h2) e s r
theorem de_not (ha : PE X a (dE X.K W ta)) : PE X (.UnaryOp .Not a pos) (dE X.K W (eNot ta)) := by
  refine (pe_notT ha).imp fun σ H Q ⟨ρ, μ, S, R, Rx, at_, h, ok, ox⟩ => ?_
  refine ⟨ρ, μ, S, _, Rx, at_, h, fun d S' v μ' H' h' e s r => ?_, ox⟩
  obtain ⟨k, h1, h2⟩ := tru_of s r h'
  exact ⟨k, h1, ok _ _ _ _ _ h2 e s (.bl _)⟩
theorem de_if (hc : PT X c (dT X.K W tc)) (ha : PE X a (dE X.K W ta)) (hb : PE X b (dE X.K W tb)) : PE X (.IfExp c a b pos) (dE X.K W (eIf tc ta tb)) := by
  refine (pe_ifExp hc ha hb).imp fun σ H Q ⟨ρ, μ, S, R, Rx, at_, h, ok, ox⟩ => ?_
  refine ⟨ρ, μ, S, _, Rx, at_, h, fun b S' μ' H' h' e s => ?_, ox⟩
  cases b with
  | true => exact ⟨ρ, μ', S', R, Rx, ⟨at_.env.mono e, s⟩, ift_t h', ok.ext e, ox.ext e⟩
  | false => exact ⟨ρ, μ', S', R, Rx, ⟨at_.env.mono e, s⟩, ift_f h', ok.ext e, ox.ext e⟩
/-! ### is -/
def isND : OU := fun x S R => match x with
  | .non => R (.bl true) S
  | _ => R (.bl false) S
def isNotND : OU := fun x S R => match x with
  | .non => R (.bl false) S
  | _ => R (.bl true) S
theorem rep_non {K : PySem.W.Frag} {H : Hp} {μ : List Addr} {d : D} {v : V} (r : Rep K H μ d v) : (v = .non) ↔ d = .non := by
  cases r <;> simp
theorem de_isN {j pos'} (ha : PE X a (dE X.K W ta)) : PE X (.Compare a [.Is] [.Constant .none j pos'] pos) (dE X.K W (e1 isND ta)) := by
  refine (pe_cmpR op_isN ha pe_non (nomark _)).imp fun σ H Q ⟨ρ, μ, S, R, Rx, at_, h, ok, ox⟩ => ?_
  refine ⟨ρ, μ, S, _, Rx, at_, h, fun d S' v μ' H' h' e s r => ⟨rfl, ?_⟩, ox⟩
  cases r <;> exact ok _ _ _ _ _ h' e s (.bl _)
theorem de_notN {j pos'} (ha : PE X a (dE X.K W ta)) : PE X (.Compare a [.IsNot] [.Constant .none j pos'] pos) (dE X.K W (e1 isNotND ta)) := by
  refine (pe_cmpR op_notN ha pe_non (nomark _)).imp fun σ H Q ⟨ρ, μ, S, R, Rx, at_, h, ok, ox⟩ => ?_
  refine ⟨ρ, μ, S, _, Rx, at_, h, fun d S' v μ' H' h' e s r => ⟨rfl, ?_⟩, ox⟩
  cases r <;> exact ok _ _ _ _ _ h' e s (.bl _)
theorem dt_isN {j pos'} (ha : PE X a (dE X.K W ta)) : PT X (.Compare a [.Is] [.Constant .none j pos'] pos) (dT X.K W (tTru (e1 isND ta))) := by
  refine (pt_cmpR op_isN ha pe_non (nomark _)).imp fun σ H Q ⟨ρ, μ, S, R, Rx, at_, h, ok, ox⟩ => ?_
  refine ⟨ρ, μ, S, _, Rx, at_, h, fun d S' v μ' H' h' e s r => ⟨rfl, _, rfl, ?_⟩, ox⟩
  cases r <;> exact ok _ _ _ _ h' e s
theorem dt_notN {j pos'} (ha : PE X a (dE X.K W ta)) : PT X (.Compare a [.IsNot] [.Constant .none j pos'] pos) (dT X.K W (tTru (e1 isNotND ta))) := by
  refine (pt_cmpR op_notN ha pe_non (nomark _)).imp fun σ H Q ⟨ρ, μ, S, R, Rx, at_, h, ok, ox⟩ => ?_
  refine ⟨ρ, μ, S, _, Rx, at_, h, fun d S' v μ' H' h' e s r => ⟨rfl, _, rfl, ?_⟩, ox⟩
  cases r <;> exact ok _ _ _ _ h' e s
/-! ### built-ins -/
theorem br_args {K : PySem.W.Frag} {r : List V → Hp → VK → Prop} {f : OC} (br : BrC K r f) {σ : L2.St} {H : Hp} {Q : VK} (h : dE K W (eB f tr) σ H Q) : tCB r (dA K W n tr) σ H Q := by
  obtain ⟨ρ, μ, S, R, Rx, at_, h, ok, ox⟩ := h
  exact ⟨ρ, μ, S, _, Rx, at_, h, fun xs S1 vs μ1 H1 _ h1 e1 s1 r1 => br xs S1 R vs μ1 H1 Q s1 r1 h1 (ok.ext e1), ox⟩
theorem da_nil : PA X [] (dA X.K W 0 aNil) := pa_nil.imp fun σ H Q ⟨ρ, μ, S, R, Rx, at_, h, ok, ox⟩ => ok _ _ _ _ _ rfl h Ext.refl at_.sim .nil
theorem da_cons (ha : PE X a (dE X.K W ta)) (hr : PA X es (dA X.K W n tr)) (hs : starEach (a :: es) X.env = (false, eval a X.env) :: starEach es X.env := by rfl) : PA X (a :: es) (dA X.K W (n + 1) (aCons ta tr)) := by
  refine (pa_cons ha hr hs).imp fun σ H Q ⟨ρ, μ, S, R, Rx, at_, h, ok, ox⟩ => ?_
  refine ⟨ρ, μ, S, _, Rx, at_, h, fun d S' v μ' H' h' e s r => ?_, ox⟩
  refine ⟨ρ, μ', S', _, Rx, ⟨at_.env.mono e, s⟩, h', fun ds S2 vs μ2 H2 l2 h2 e2 s2 r2 => ?_, ox.ext e⟩
  exact ok _ _ _ _ _ (by rw [List.length_cons, l2]) h2 (e.trans e2) s2 (.cons (r.mono e2) r2)
theorem de_tup {k} (h : PA X es (dA X.K W n tr)) : PE X (.Tuple es k pos) (dE X.K W (eTup tr)) := by
  refine (pe_tup h).imp fun σ H Q ⟨ρ, μ, S, R, Rx, at_, h, ok, ox⟩ => ?_
  refine ⟨ρ, μ, S, _, Rx, at_, h, fun ds S' vs μ' H' _ h' e s r => ⟨by rw [← r.length]; exact h'.1, fun p hp => ?_⟩, ox⟩
  obtain ⟨e', s', r'⟩ := s.newTup hp r
  exact ok _ _ _ _ _ h'.2 (e.trans e') s' r'
theorem de_lst (h : PA X es (dA X.K W n tr)) : PE X (.List es pos) (dE X.K W (eLst tr)) := by
  refine (pe_lst h).imp fun σ H Q ⟨ρ, μ, S, R, Rx, at_, h, ok, ox⟩ => ?_
  refine ⟨ρ, μ, S, _, Rx, at_, h, fun ds S' vs μ' H' _ h' e s r => ⟨by rw [← r.length]; exact h'.1, fun p hp => ?_⟩, ox⟩
  obtain ⟨e', s', r'⟩ := s.newLst hp r
  exact ok _ _ _ _ _ h'.2 (e.trans e') s' r'
theorem de_callB {x : Str} {id : String} {r : List V → Hp → VK → Prop} {f : OC} {p : Pos} (hc : CallR X (.builtin id) r) (br : BrC X.K r f) (hm : X.mg x = none) (hv : bootBuiltins x = some (.builtin id)) (ha : PA X (a :: es) (dA X.K W n tr)) (hg : Gl X x := by rfl) (hn : x ≠ "__name__" := by decide) (hdb : (x == ("__debug__" : Str)) = false := by decide)
    (he : starEach (a :: es) X.env = (false, eval a X.env) :: starEach es X.env := by rfl) (hpl : (backTo pos (starEach es X.env)).any (·.1) = false := by rfl) : PE X (.Call (.Name x p) (a :: es) [] pos) (dE X.K W (eB f tr)) :=
  (pe_callB hc hg hm hv ha hn hdb he hpl).imp fun _ _ _ h => br_args br h
theorem de_callTy {x : Str} {T : String} {r : List V → Hp → VK → Prop} {f : OC} {p : Pos} (hc : CallR X (.type T) r) (br : BrC X.K r f) (hm : X.mg x = none) (hv : bootBuiltins x = some (.type T)) (ha : PA X (a :: es) (dA X.K W n tr)) (hg : Gl X x := by rfl) (hn : x ≠ "__name__" := by decide) (hdb : (x == ("__debug__" : Str)) = false := by decide)
    (he : starEach (a :: es) X.env = (false, eval a X.env) :: starEach es X.env := by rfl) (hpl : (backTo pos (starEach es X.env)).any (·.1) = false := by rfl) : PE X (.Call (.Name x p) (a :: es) [] pos) (dE X.K W (eB f tr)) :=
  (pe_callTy hc hg hm hv ha hn hdb he hpl).imp fun _ _ _ h => br_args br h
def lenD : OC := fun xs S R => match xs with
  | [.str x] => x.length ≤ sizeLine ∧ R (.int x.length) S
  | [.tup xs] => R (.int xs.length) S
  | [.ref n] => lstAt n S fun xs => R (.int xs.length) S
  | _ => False
theorem br_len : BrC X.K (fun xs H Q => ∃ x n, xs = [x] ∧ LenV X.K x H n ∧ Q (.int n) H) lenD := by
  intro xs S R vs μ H Q s r h ok
  unfold lenD at h
  split at h
  · cases r with | cons r1 r2 => cases r2; cases r1; exact ⟨_, _, rfl, ⟨h.1, rfl⟩, ok _ _ _ _ _ h.2 Ext.refl s (.int _)⟩
  · cases r with | cons r1 r2 => cases r2; cases r1 with | tup t q => exact ⟨_, _, rfl, .inr ⟨_, t, rfl⟩, by rw [← q.length]; exact ok _ _ _ _ _ h Ext.refl s (.int _)⟩
  · cases r with | cons r1 r2 =>
    cases r2
    cases r1 with | ref g =>
    obtain ⟨xs, e, h⟩ := lst_inv h
    obtain ⟨vs, hv, q⟩ := s.lstR g e
    exact ⟨_, _, rfl, .inl ⟨_, hv, rfl⟩, by rw [← q.length]; exact ok _ _ _ _ _ h Ext.refl s (.int _)⟩
  · exact h.elim
def absD : OC := fun xs S R => match xs with
  | [.int i] => R (.int (if i < 0 then -i else i)) S
  | _ => False
theorem br_abs : BrC X.K (fun xs H Q => ∃ i, xs = [.int i] ∧ Q (.int (if i < 0 then -i else i)) H) absD := by
  intro xs S R vs μ H Q s r h ok
  unfold absD at h
  split at h
  · cases r with | cons r1 r2 => cases r2; cases r1; exact ⟨_, rfl, ok _ _ _ _ _ h Ext.refl s (.int _)⟩
  · exact h.elim
def intD : OC := fun xs S R => match xs with
  | [.int i] => R (.int i) S
  | [.bl k] => R (.int (if k then 1 else 0)) S
  | _ => False
theorem br_int : BrC X.K (fun xs H Q => (∃ i, xs = [.int i] ∧ Q (.int i) H) ∨ ∃ k, xs = [.bl k] ∧ Q (.int (if k then 1 else 0)) H) intD := by
  intro xs S R vs μ H Q s r h ok
  unfold intD at h
  split at h
  · cases r with | cons r1 r2 => cases r2; cases r1; exact .inl ⟨_, rfl, ok _ _ _ _ _ h Ext.refl s (.int _)⟩
  · cases r with | cons r1 r2 => cases r2; cases r1; exact .inr ⟨_, rfl, ok _ _ _ _ _ h Ext.refl s (.int _)⟩
  · exact h.elim
def strD : OC := fun xs S R => match xs with
  | [.int i] => i.natAbs.log2 < 1920 ∧ R (.str (toString i)) S
  | _ => False
theorem br_str : BrC X.K (fun xs H Q => ∃ i, xs = [.int i] ∧ i.natAbs.log2 < 1920 ∧ Q (.str (toString i)) H) strD := by
  intro xs S R vs μ H Q s r h ok
  unfold strD at h
  split at h
  · cases r with | cons r1 r2 => cases r2; cases r1; exact ⟨_, rfl, h.1, ok _ _ _ _ _ h.2 Ext.refl s (.str _)⟩
  · exact h.elim
/-- list(x) of a tuple or a list -/
def listD : OC := fun xs S R => match xs with
  | [.tup xs] => R (.ref S.length) (S ++ [.lst xs])
  | [.ref n] => lstAt n S fun xs => R (.ref S.length) (S ++ [.lst xs])
  | _ => False
theorem br_list : BrC X.K (fun xs H Q => ∃ p ys, xs = [.ref p] ∧ (SqL X.K H p ys ∨ SqT X.K H p ys) ∧ ∀ l, H l = none → Q (.ref l) (upd H l (.lst ys))) listD := by
  intro xs S R vs μ H Q s r h ok
  unfold listD at h
  have go : ∀ {ds : List D} {us : List V}, Reps X.K H μ ds us → R (.ref S.length) (S ++ [.lst ds]) → ∀ l, H l = none → Q (.ref l) (upd H l (.lst us)) := fun q h l hl => by
    obtain ⟨e, s', r⟩ := s.newLst hl q
    exact ok _ _ _ _ _ h e s' r
  split at h
  · cases r with | cons r1 r2 => cases r2; cases r1 with | tup t q => exact ⟨_, _, rfl, .inr t, go q h⟩
  · cases r with | cons r1 r2 =>
    cases r2
    cases r1 with | ref g =>
    obtain ⟨xs, e, h⟩ := lst_inv h
    obtain ⟨vs, hv, q⟩ := s.lstR g e
    exact ⟨_, _, rfl, .inl hv, go q h⟩
  · exact h.elim
/-- tuple(x) of a tuple or a list -/
def tupleD : OC := fun xs S R => match xs with
  | [.tup xs] => R (.tup xs) S
  | [.ref n] => lstAt n S fun xs => R (.tup xs) S
  | _ => False
theorem br_tuple : BrC X.K (fun xs H Q => ∃ p ys, xs = [.ref p] ∧ ((SqL X.K H p ys ∧ ∀ l, H l = none → Q (.ref l) (upd H l (.tup ys))) ∨ (SqT X.K H p ys ∧ Q (.ref p) H))) tupleD := by
  intro xs S R vs μ H Q s r h ok
  unfold tupleD at h
  have go : ∀ {ds : List D} {us : List V}, Reps X.K H μ ds us → R (.tup ds) S → ∀ l, H l = none → Q (.ref l) (upd H l (.tup us)) := fun q h l hl => by
    obtain ⟨e, s', r⟩ := s.newTup hl q
    exact ok _ _ _ _ _ h e s' r
  split at h
  · cases r with | cons r1 r2 => cases r2; cases r1 with | tup t q => exact ⟨_, _, rfl, .inr ⟨t, ok _ _ _ _ _ h Ext.refl s (.tup t q)⟩⟩
  · cases r with | cons r1 r2 =>
    cases r2
    cases r1 with | ref g =>
    obtain ⟨xs, e, h⟩ := lst_inv h
    obtain ⟨vs, hv, q⟩ := s.lstR g e
    exact ⟨_, _, rfl, .inl ⟨hv, go q h⟩⟩
  · exact h.elim
/-! ### isinstance -/
/-- a value's built-in class by its place: 0 None, 1 bool, 2 int, 3 str, 4 tuple, 5 list -/
def kindD (d : D) (S : Sto) (k : Nat → Prop) : Prop := match d with
  | .non => k 0
  | .bl _ => k 1
  | .int _ => k 2
  | .str _ => k 3
  | .tup _ => k 4
  | .ref n => lstAt n S fun _ => k 5
def kName : Nat → String
  | 0 => "NoneType"
  | 1 => "bool"
  | 2 => "int"
  | 3 => "str"
  | 4 => "tuple"
  | _ => "list"
/-- the classes asked for: 1 bool, 2 int, 3 str, 4 tuple, 5 list, 6 dict -/
def tName : Nat → String
  | 1 => "bool"
  | 2 => "int"
  | 3 => "str"
  | 4 => "tuple"
  | 5 => "list"
  | _ => "dict"
def isKT (k t : Nat) : Bool := k == t || (k == 1 && t == 2)
theorem kit_is : ∀ k, k < 6 → ∀ t, 1 ≤ t → t < 7 → kitB (kName k) (tName t) = some (isKT k t) := by
  intro k hk t h1 ht
  have hk' : k = 0 ∨ k = 1 ∨ k = 2 ∨ k = 3 ∨ k = 4 ∨ k = 5 := by omega
  have ht' : t = 1 ∨ t = 2 ∨ t = 3 ∨ t = 4 ∨ t = 5 ∨ t = 6 := by omega
  rcases hk' with rfl | rfl | rfl | rfl | rfl | rfl <;> rcases ht' with rfl | rfl | rfl | rfl | rfl | rfl <;> decide +kernel
theorem kind_of {K : PySem.W.Frag} {H : Hp} {μ : List Addr} {S : Sto} {d : D} {v : V} {Z : Nat → Prop} (s : Sim K H μ S) (r : Rep K H μ d v) (h : kindD d S Z) : ∃ k, Z k ∧ k < 6 ∧ TyX K H v (.type (kName k)) := by
  unfold kindD at h
  cases r with
  | non => exact ⟨_, h, by decide, .base .non⟩
  | bl b => exact ⟨_, h, by decide, .base (.bl b)⟩
  | int i => exact ⟨_, h, by decide, .base (.int i)⟩
  | str x => exact ⟨_, h, by decide, .base (.str x)⟩
  | tup t q =>
    refine ⟨_, h, by decide, ?_⟩
    rcases t with (t | ⟨o, t⟩) | ⟨o, its, n, h1, h2, _⟩
    · exact .base (.tup t)
    · exact .fTuple t
    · exact .kTuple h1 h2
  | ref g =>
    obtain ⟨xs, e, h⟩ := lst_inv h
    refine ⟨_, h, by decide, ?_⟩
    rcases e with e | e
    · obtain ⟨vs, hv, q⟩ := s.lst g e
      exact .base (.lst hv)
    · obtain ⟨vs, hv, q⟩ := s.fix g e
      rcases hv with ⟨o, hv⟩ | ⟨o, its, n, h1, h2, _⟩
      · exact .base (.frz hv)
      · exact .kList h1 h2
def isiD (t : Nat) : OU := fun x S R => kindD x S fun k => R (.bl (isKT k t)) S
/-- isinstance(e, T) -/
theorem de_isi {p q : Pos} {xT : Str} (t : Nat) (h1 : 1 ≤ t) (h6 : t < 7) (hm : X.mg "isinstance" = none) (hmT : X.mg xT = none) (hvT : bootBuiltins xT = some (.type (tName t))) (ha : PE X a (dE X.K W ta))
    (hg : Gl X "isinstance" := by rfl) (hgT : Gl X xT := by rfl) (hnT : xT ≠ "__name__" := by decide) (hdT : (xT == ("__debug__" : Str)) = false := by decide)
    (hs1 : starEach [a, .Name xT q] X.env = (false, eval a X.env) :: starEach [.Name xT q] X.env := by rfl) (hs2 : starEach [.Name xT q] X.env = (false, eval (.Name xT q) X.env) :: starEach [] X.env := by rfl)
    (hpl : (backTo pos (starEach [.Name xT q] X.env)).any (·.1) = false := by rfl) : PE X (.Call (.Name "isinstance" p) [a, .Name xT q] [] pos) (dE X.K W (e1 (isiD t) ta)) := by
  refine (pe_callB call_isi hg hm PyProof.Rows.boot_isinstance (pa_cons ha (pa_cons (pe_bltn (v := .ty (tName t)) hgT hmT hvT rfl hnT hdT) pa_nil hs2) hs1) (by decide) (by decide) hs1 hpl).imp fun σ H Q ⟨ρ, μ, S, R, Rx, at_, h, ok, ox⟩ => ?_
  refine ⟨ρ, μ, S, _, Rx, at_, h, fun d S' v μ' H' h' e s r => ?_, ox⟩
  obtain ⟨k, h', hk, ty⟩ := kind_of s r h'
  exact ⟨v, .ty (tName t), _, _, _, rfl, .ty _, ty, kit_ty (kit_is k hk t h1 h6), ok _ _ _ _ _ h' e s (.bl _)⟩
def isi3D (t u w : Nat) : OU := fun x S R => kindD x S fun k => R (.bl (isKT k t || (isKT k u || isKT k w))) S
/-- isinstance(e, (T, U, V)) -/
theorem de_isi3 {p q1 q2 q3 qt : Pos} {kt : Nat} {x1 x2 x3 : Str} (t u w : Nat) (a1 : 1 ≤ t ∧ t < 7) (a2 : 1 ≤ u ∧ u < 7) (a3 : 1 ≤ w ∧ w < 7) (hm : X.mg "isinstance" = none) (hm1 : X.mg x1 = none) (hm2 : X.mg x2 = none) (hm3 : X.mg x3 = none)
    (v1 : bootBuiltins x1 = some (.type (tName t))) (v2 : bootBuiltins x2 = some (.type (tName u))) (v3 : bootBuiltins x3 = some (.type (tName w))) (ha : PE X a (dE X.K W ta))
    (hg : Gl X "isinstance" := by rfl) (g1 : Gl X x1 := by rfl) (g2 : Gl X x2 := by rfl) (g3 : Gl X x3 := by rfl) (n1 : x1 ≠ "__name__" := by decide) (n2 : x2 ≠ "__name__" := by decide) (n3 : x3 ≠ "__name__" := by decide)
    (d1 : (x1 == ("__debug__" : Str)) = false := by decide) (d2 : (x2 == ("__debug__" : Str)) = false := by decide) (d3 : (x3 == ("__debug__" : Str)) = false := by decide)
    (hs1 : starEach [a, .Tuple [.Name x1 q1, .Name x2 q2, .Name x3 q3] kt qt] X.env = (false, eval a X.env) :: starEach [.Tuple [.Name x1 q1, .Name x2 q2, .Name x3 q3] kt qt] X.env := by rfl)
    (hs2 : starEach [.Tuple [.Name x1 q1, .Name x2 q2, .Name x3 q3] kt qt] X.env = (false, eval (.Tuple [.Name x1 q1, .Name x2 q2, .Name x3 q3] kt qt) X.env) :: starEach [] X.env := by rfl)
    (hpl : (backTo pos (starEach [.Tuple [.Name x1 q1, .Name x2 q2, .Name x3 q3] kt qt] X.env)).any (·.1) = false := by rfl)
    (hs3 : starEach [.Name x1 q1, .Name x2 q2, .Name x3 q3] X.env = (false, eval (.Name x1 q1) X.env) :: starEach [.Name x2 q2, .Name x3 q3] X.env := by rfl)
    (hs4 : starEach [.Name x2 q2, .Name x3 q3] X.env = (false, eval (.Name x2 q2) X.env) :: starEach [.Name x3 q3] X.env := by rfl) (hs5 : starEach [.Name x3 q3] X.env = (false, eval (.Name x3 q3) X.env) :: starEach [] X.env := by rfl) :
    PE X (.Call (.Name "isinstance" p) [a, .Tuple [.Name x1 q1, .Name x2 q2, .Name x3 q3] kt qt] [] pos) (dE X.K W (e1 (isi3D t u w) ta)) := by
  refine (pe_callB call_isiT hg hm PyProof.Rows.boot_isinstance (pa_cons ha (pa_cons (pe_tup (pa_cons (pe_bltn (v := .ty (tName t)) g1 hm1 v1 rfl n1 d1) (pa_cons (pe_bltn (v := .ty (tName u)) g2 hm2 v2 rfl n2 d2) (pa_cons (pe_bltn (v := .ty (tName w)) g3 hm3 v3 rfl n3 d3) pa_nil hs5) hs4) hs3)) pa_nil hs2) hs1) (by decide) (by decide) hs1 hpl).imp fun σ H Q ⟨ρ, μ, S, R, Rx, at_, h, ok, ox⟩ => ?_
  refine ⟨ρ, μ, S, _, Rx, at_, h, fun d S' v μ' H' h' e s r => ?_, ox⟩
  refine ⟨by show 3 ≤ sizeLine; decide, fun tp htp => ?_⟩
  have e' : Ext X.K H' μ' (upd H' tp (.tup [.ty (tName t), .ty (tName u), .ty (tName w)])) μ' := Ext.fresh htp fun _ _ h => h
  have s' := s.tup (o := .tup [.ty (tName t), .ty (tName u), .ty (tName w)]) htp
  obtain ⟨k, h', hk, ty⟩ := kind_of s' (r.mono e') h'
  refine ⟨v, tp, _, _, _, _, rfl, upd_same, .cons (.ty _) (.cons (.ty _) (.cons (.ty _) .nil)), ty, ?_, ok _ _ _ _ _ h' (e.trans e') s' (.bl _)⟩
  have k1 := kit_ty (K := X.K) (kit_is k hk t a1.1 a1.2)
  have k2 := kit_ty (K := X.K) (kit_is k hk u a2.1 a2.2)
  have k3 := kit_ty (K := X.K) (kit_is k hk w a3.1 a3.2)
  refine kitAny_cons k1 (fun z => ?_) (fun z => by rw [z]; rfl)
  rw [z, Bool.false_or]
  refine kitAny_cons k2 (fun z => ?_) (fun z => by rw [z]; rfl)
  rw [z, Bool.false_or]
  exact kitAny_cons k3 (fun z => by rw [z]; exact kitAny_nil) (fun z => z)
end
end DL
namespace DL
open PySem PySem.Spec PyProof.Rows L2

abbrev TDO := RX → Ev → Sto → (Option Int → Sto → Prop) → Prop
def oNone : TDO := fun _ _ S R => R none S
def oSome (t : TD) : TDO := fun Rx ρ S R => t Rx ρ S fun d S1 => match d with
  | .int i => R (some i) S1
  | _ => False
def OkO (K : PySem.W.Frag) (H : Hp) (μ : List Addr) (R : Option Int → Sto → Prop) (Q : Option Int → Hp → Prop) : Prop := ∀ o S' μ' H', R o S' → Ext K H μ H' μ' → Sim K H' μ' S' → Q o H'
def dO (K : PySem.W.Frag) (W : WX) (t : TDO) : TO := fun σ H Q => ∃ ρ μ S R Rx, At K σ H ρ μ S ∧ t Rx ρ S R ∧ OkO K H μ R Q ∧ OkX K H μ Rx (wAt W σ)
theorem _root_.L2.PO.imp {X : Cx} {e : Option Expr} {t t' : TO} (h : PO X e t) (i : ∀ σ H Q, t' σ H Q → t σ H Q) : PO X e t' := ⟨fun pins s σ H Q I q => h.run pins s σ H Q I (i σ H Q q)⟩
def cutD (xs : List D) (lo hi : Option Int) : List D := (xs.drop (HT.sIx xs.length 0 lo)).take (HT.sIx xs.length xs.length hi - HT.sIx xs.length 0 lo)
def sliceD (x : D) (lo hi : Option Int) (S : Sto) (R : RD) : Prop := match x with
  | .str z => z.length ≤ sizeLine ∧ R (.str (cutS z lo hi)) S
  | .tup xs => R (.tup (cutD xs lo hi)) S
  | .ref n => lstAt n S fun xs => R (.ref S.length) (S ++ [.lst (cutD xs lo hi)])
  | _ => False
def eSlice (t : TD) (tl th : TDO) : TD := fun Rx ρ S R => t Rx ρ S fun x S1 => tl Rx ρ S1 fun lo S2 => th Rx ρ S2 fun hi S3 => sliceD x lo hi S3 R
def eRev (t : TD) : TD := fun Rx ρ S R => t Rx ρ S fun x S1 => match x with
  | .ref n => lstAt n S1 fun xs => R (.ref S1.length) (S1 ++ [.lst xs.reverse])
  | _ => False
def ixD : OD := fun x y S R => match y with
  | .int i => match x with
    | .tup xs => ixAt xs i fun d => R d S
    | .str z => z.length ≤ sizeLine ∧ (match atI z.cps.toList i with
      | some c => R (.str ⟨#[c]⟩) S
      | none => False)
    | .ref n => lstAt n S fun xs => ixAt xs i fun d => R d S
    | _ => False
  | _ => False
def appD (d : D) (n : Nat) (S : Sto) (R : RD) : Prop := mlstAt n S fun xs => xs.length < sizeLine ∧ R .non (S.set n (.lst (xs ++ [d])))
def eAppend (to_ ta : TD) : TD := fun Rx ρ S R => to_ Rx ρ S fun o S1 => match o with
  | .ref n => mlstAt n S1 (fun _ => True) ∧ ta Rx ρ S1 fun d S2 => appD d n S2 R
  | _ => False
/-- the last item goes -/
def popK (xs : List D) (k : D → Prop) : Prop := match xs[xs.length - 1]? with
  | some d => k d
  | none => False
def ePop (to_ : TD) : TD := fun Rx ρ S R => to_ Rx ρ S fun o S1 => match o with
  | .ref n => mlstAt n S1 fun xs => popK xs fun d => R d (S1.set n (.lst xs.dropLast))
  | _ => False
def popAtK (xs : List D) (i : Int) (k : D → Nat → Prop) : Prop := match ixN xs.length i with
  | some j => (match xs[j]? with
    | some d => (-(2 ^ 63) ≤ i ∧ i < 2 ^ 63) ∧ k d j
    | none => False)
  | none => False
def ePopAt (to_ ta : TD) : TD := fun Rx ρ S R => to_ Rx ρ S fun o S1 => match o with
  | .ref n => mlstAt n S1 (fun _ => True) ∧ ta Rx ρ S1 fun d S2 => match d with
    | .int i => mlstAt n S2 fun xs => popAtK xs i fun d j => R d (S2.set n (.lst (xs.eraseIdx j)))
    | _ => False
  | _ => False
def eFmt (t : TD) : TD := fun Rx ρ S R => t Rx ρ S fun x S1 => match x with
  | .str y => y.length ≤ sizeLine ∧ R (.str y) S1
  | .int i => i.natAbs.log2 < 1920 ∧ R (.str (toString i)) S1
  | _ => False
abbrev TDJ := RX → Ev → Sto → Str → (Str → Sto → Prop) → Prop
def jNil : TDJ := fun _ _ S acc R => R acc S
def jCons (t : TD) (r : TDJ) : TDJ := fun Rx ρ S acc R => t Rx ρ S fun x S1 => match x with
  | .str y => (acc ++ y).length ≤ sizeLine ∧ r Rx ρ S1 (acc ++ y) R
  | _ => False
def eJoined (j : TDJ) : TD := fun Rx ρ S R => j Rx ρ S Str.empty fun out S1 => R (.str out) S1

section
variable {X : Cx} {W : WX} {a b c o : Expr} {ta tb to_ : TD} {pos apos p2 : Pos} {es rest : List Expr} {tr tk : TDA} {n m : Nat} {lo hi : Option Expr} {tl th : TDO}
theorem do_none : PO X none (dO X.K W oNone) := po_none.imp fun σ H Q ⟨ρ, μ, S, R, Rx, at_, h, ok, ox⟩ => ok _ _ _ _ h Ext.refl at_.sim
theorem do_some (ha : PE X a (dE X.K W ta)) : PO X (some a) (dO X.K W (oSome ta)) := (po_some ha).imp fun σ H Q ⟨ρ, μ, S, R, Rx, at_, h, ok, ox⟩ => by
  refine ⟨ρ, μ, S, _, Rx, at_, h, fun d S' v μ' H' h' e s r => ?_, ox⟩
  dsimp only at h'
  split at h'
  · cases r
    exact ⟨_, rfl, ok _ _ _ _ h' e s⟩
  · exact h'.elim
theorem Reps.cut {K : PySem.W.Frag} {H : Hp} {μ : List Addr} {xs : List D} {vs : List V} (r : Reps K H μ xs vs) (l h : Option Int) : Reps K H μ (cutD xs l h) (cutV vs l h) := by
  unfold cutD cutV
  rw [r.length]
  exact (r.drop _).take _
theorem de_slice (ha : PE X a (dE X.K W ta)) (hl : PO X lo (dO X.K W tl)) (hh : PO X hi (dO X.K W th)) : PE X (.Subscript a (.Slice lo hi none p2) pos) (dE X.K W (eSlice ta tl th)) := by
  refine (pe_slice (sl_list.or (sl_tupA.or sl_str)) ha hl hh).imp fun σ H Q ⟨ρ, μ, S, R, Rx, at_, h, ok, ox⟩ => ?_
  refine ⟨ρ, μ, S, _, Rx, at_, h, fun x S1 v μ1 H1 h1 e1 s1 r1 => ?_, ox⟩
  refine ⟨ρ, μ1, S1, _, Rx, ⟨at_.env.mono e1, s1⟩, h1, fun l S2 μ2 H2 h2 e2 s2 => ?_, ox.ext e1⟩
  refine ⟨ρ, μ2, S2, _, Rx, ⟨at_.env.mono (e1.trans e2), s2⟩, h2, fun u S3 μ3 H3 h3 e3 s3 => ?_, ox.ext (e1.trans e2)⟩
  have r3 := r1.mono (e2.trans e3)
  have e := (e1.trans e2).trans e3
  replace h3 : sliceD x l u S3 R := h3
  unfold sliceD at h3
  split at h3
  · cases r3
    exact .inr (.inr ⟨_, rfl, h3.1, ok _ _ _ _ _ h3.2 e s3 (.str _)⟩)
  · rename_i xs
    cases r3 with | tup t q =>
    refine .inr (.inl ⟨_, _, rfl, t, fun hw => ?_, fun hw p hp => ?_⟩)
    · have : cutD xs l u = xs := by
        unfold cutD
        rw [q.length, hw.1, hw.2, List.drop_zero, Nat.sub_zero, ← q.length, List.take_length]
      rw [this] at h3
      exact ok _ _ _ _ _ h3 e s3 (.tup t q)
    · obtain ⟨e', s', r'⟩ := s3.newTup hp (q.cut l u)
      exact ok _ _ _ _ _ h3 (e.trans e') s' r'
  · cases r3 with | ref g =>
    obtain ⟨xs, g3, h3⟩ := lst_inv h3
    obtain ⟨vs, hv, q⟩ := s3.lstR g g3
    refine .inl ⟨_, _, rfl, hv, fun p hp => ?_⟩
    obtain ⟨e', s', r'⟩ := s3.newLst hp (q.cut l u)
    exact ok _ _ _ _ _ h3 (e.trans e') s' r'
  · exact h3.elim
theorem de_rev {k : Nat} {p1 p3 : Pos} (ha : PE X a (dE X.K W ta)) : PE X (.Subscript a (.Slice none none (some (.UnaryOp .USub (.Constant (.int 1) k p1) p2)) p3) pos) (dE X.K W (eRev ta)) := by
  refine (pe_revL ha).imp fun σ H Q ⟨ρ, μ, S, R, Rx, at_, h, ok, ox⟩ => ?_
  refine ⟨ρ, μ, S, _, Rx, at_, h, fun x S1 v μ1 H1 h1 e s r => ?_, ox⟩
  dsimp only at h1
  split at h1
  · cases r with | ref g =>
    obtain ⟨xs, g3, h1⟩ := lst_inv h1
    obtain ⟨vs, hv, q⟩ := s.lstR g g3
    refine ⟨_, _, rfl, hv, fun p hp => ?_⟩
    obtain ⟨e', s', r'⟩ := s.newLst hp q.reverse
    exact ok _ _ _ _ _ h1 (e.trans e') s' r'
  · exact h1.elim
theorem Reps.atI {K : PySem.W.Frag} {H : Hp} {μ : List Addr} {xs : List D} {vs : List V} {i : Int} {d : D} (r : Reps K H μ xs vs) (h : L2.atI xs i = some d) : ∃ v, L2.atI vs i = some v ∧ Rep K H μ d v := by
  unfold L2.atI at h ⊢
  rw [← r.length]
  cases e : ixN xs.length i with
  | none => rw [e] at h; cases h
  | some j =>
    rw [e] at h
    exact r.get h
theorem br_ix : Br2 X.K (rIx X.K) ixD := by
  intro x y S R vx vy μ H Q s r1 r2 h ok
  unfold ixD at h
  split at h
  · cases r2
    split at h
    · obtain ⟨d, ed, h⟩ := ix_inv h
      cases r1 with | tup t q =>
      obtain ⟨v, h1, h2⟩ := q.atI ed
      exact .inr (.inl ⟨_, _, _, _, rfl, rfl, t, h1, ok _ _ _ _ _ h Ext.refl s h2⟩)
    · obtain ⟨hl, h⟩ := h
      split at h
      · rename_i ed
        cases r1
        exact .inr (.inr ⟨_, _, _, rfl, rfl, hl, ed, ok _ _ _ _ _ h Ext.refl s (.str _)⟩)
      · exact h.elim
    · cases r1 with | ref g =>
      obtain ⟨xs, g3, h⟩ := lst_inv h
      obtain ⟨vs, hv, q⟩ := s.lstR g g3
      obtain ⟨d, ed, h⟩ := ix_inv h
      obtain ⟨v, h1, h2⟩ := q.atI ed
      exact .inl ⟨_, _, _, _, rfl, rfl, hv, h1, ok _ _ _ _ _ h Ext.refl s h2⟩
    · exact h.elim
  · exact h.elim
theorem de_ix (ha : PE X a (dE X.K W ta)) (hb : PE X b (dE X.K W tb)) (hs : PlainIx b := by exact fun _ _ => rfl) : PE X (.Subscript a b pos) (dE X.K W (e2 ixD ta tb)) :=
  (pe_ix ix_seq ha hb hs).imp fun _ _ _ h => seq2 br_ix h

/-! ### methods of lists -/
theorem Sim.setLst {K : PySem.W.Frag} {H : Hp} {μ : List Addr} {S : Sto} {n : Nat} {p : Addr} {xs ys : List D} {us : List V} (s : Sim K H μ S) (h : μ[n]? = some p) (e : S[n]? = some (.lst xs)) (r : Reps K H μ ys us) :
    Ext K H μ (upd H p (.lst us)) μ ∧ Sim K (upd H p (.lst us)) μ (S.set n (.lst ys)) :=
  have x : Ext K H μ (upd H p (.lst us)) μ := Ext.writeAt s h e rfl
  ⟨x, s.write h e rfl rfl ⟨us, upd_same, r.mono x⟩⟩
theorem de_append (ho : PE X o (dE X.K W to_)) (ha : PE X a (dE X.K W ta)) (hbase : attributeBase o "append" X.env (eval o X.env) = eval o X.env := by rfl)
    (hfew : ((backTo pos (starEach [a] X.env)).all (fun x => !x.1) && (backToKw pos (keywordEach [] X.env)).all (fun x => x.1.isSome) && decide (([a] : List Expr).length + ([] : List Keyword).length + (if ([] : List Keyword).isEmpty then 0 else 1) < 30)) = true := by rfl)
    (hline : (apos.endLine == pos.line) = true := by rfl) (hs : starEach [a] X.env = (false, eval a X.env) :: starEach [] X.env := by rfl) (hplain : (backTo pos (starEach [] X.env)).any (·.1) = false := by rfl) :
    PE X (.Call (.Attribute o "append" apos) [a] [] pos) (dE X.K W (eAppend to_ ta)) := by
  refine (pe_bm PySem.F.plainAttrs_list PySem.F.slot_list_append PySem.F.type_list_append mt_append ho (pa_cons ha pa_nil hs) hbase hfew hline hs hplain).imp fun σ H Q ⟨ρ, μ, S, R, Rx, at_, h, ok, ox⟩ => ?_
  refine ⟨ρ, μ, S, _, Rx, at_, h, fun x S1 v μ1 H1 h1 e1 s1 r1 => ?_, ox⟩
  dsimp only at h1
  split at h1
  · cases r1 with | ref g =>
    obtain ⟨hL, h1⟩ := h1
    obtain ⟨xs0, hx, _⟩ := mlst_inv hL
    obtain ⟨vs0, hv0, _⟩ := s1.lst g hx
    refine ⟨.inl ⟨rfl, _, SqL.of hv0⟩, ρ, μ1, S1, _, Rx, ⟨at_.env.mono e1, s1⟩, h1, fun d S2 u μ2 H2 h2 e2 s2 r2 => ?_, ox.ext e1⟩
    obtain ⟨xs, g2, h2⟩ := mlst_inv h2
    have g' := e2.mu _ _ g
    obtain ⟨vs, hv, q⟩ := s2.lst g' g2
    obtain ⟨e', s'⟩ := s2.setLst g' g2 (q.append (.cons r2 .nil))
    exact ⟨_, _, _, rfl, rfl, hv, by rw [← q.length]; exact h2.1, ok _ _ _ _ _ h2.2 ((e1.trans e2).trans e') s' .non⟩
  · exact h1.elim
theorem de_pop (ho : PE X o (dE X.K W to_)) (hbase : attributeBase o "pop" X.env (eval o X.env) = eval o X.env := by rfl) (hline : (apos.endLine == pos.line) = true := by rfl) : PE X (.Call (.Attribute o "pop" apos) [] [] pos) (dE X.K W (ePop to_)) := by
  refine (pe_bm0 PySem.F.plainAttrs_list PySem.F.slot_list_pop PySem.F.type_list_pop mt_pop ho hbase hline).imp fun σ H Q ⟨ρ, μ, S, R, Rx, at_, h, ok, ox⟩ => ?_
  refine ⟨ρ, μ, S, _, Rx, at_, h, fun x S1 v μ1 H1 h1 e1 s1 r1 => ?_, ox⟩
  dsimp only at h1
  split at h1
  · cases r1 with | ref g =>
    obtain ⟨xs, g1, h1⟩ := mlst_inv h1
    obtain ⟨vs, hv, q⟩ := s1.lst g g1
    unfold popK at h1
    split at h1
    · rename_i ed
      obtain ⟨u, hu, ru⟩ := q.get ed
      obtain ⟨e', s'⟩ := s1.setLst g g1 q.dropLast
      exact ⟨.inl ⟨rfl, _, SqL.of hv⟩, _, _, _, rfl, rfl, hv, by rw [← q.length]; exact hu, ok _ _ _ _ _ h1 (e1.trans e') s' (ru.mono e')⟩
    · exact h1.elim
  · exact h1.elim
theorem Reps.eraseIdx {K : PySem.W.Frag} {H : Hp} {μ : List Addr} : ∀ {xs : List D} {vs : List V} (i : Nat), Reps K H μ xs vs → Reps K H μ (xs.eraseIdx i) (vs.eraseIdx i)
  | _, _, _, .nil => .nil
  | _, _, 0, .cons _ t => t
  | _, _, i + 1, .cons r t => .cons r (Reps.eraseIdx i t)
theorem de_popAt (ho : PE X o (dE X.K W to_)) (ha : PE X a (dE X.K W ta)) (hbase : attributeBase o "pop" X.env (eval o X.env) = eval o X.env := by rfl)
    (hfew : ((backTo pos (starEach [a] X.env)).all (fun x => !x.1) && (backToKw pos (keywordEach [] X.env)).all (fun x => x.1.isSome) && decide (([a] : List Expr).length + ([] : List Keyword).length + (if ([] : List Keyword).isEmpty then 0 else 1) < 30)) = true := by rfl)
    (hline : (apos.endLine == pos.line) = true := by rfl) (hs : starEach [a] X.env = (false, eval a X.env) :: starEach [] X.env := by rfl) (hplain : (backTo pos (starEach [] X.env)).any (·.1) = false := by rfl) :
    PE X (.Call (.Attribute o "pop" apos) [a] [] pos) (dE X.K W (ePopAt to_ ta)) := by
  refine (pe_bm PySem.F.plainAttrs_list PySem.F.slot_list_pop PySem.F.type_list_pop mt_popAt ho (pa_cons ha pa_nil hs) hbase hfew hline hs hplain).imp fun σ H Q ⟨ρ, μ, S, R, Rx, at_, h, ok, ox⟩ => ?_
  refine ⟨ρ, μ, S, _, Rx, at_, h, fun x S1 v μ1 H1 h1 e1 s1 r1 => ?_, ox⟩
  dsimp only at h1
  split at h1
  · cases r1 with | ref g =>
    obtain ⟨hL, h1⟩ := h1
    obtain ⟨xs0, hx, _⟩ := mlst_inv hL
    obtain ⟨vs0, hv0, _⟩ := s1.lst g hx
    refine ⟨.inl ⟨rfl, _, SqL.of hv0⟩, ρ, μ1, S1, _, Rx, ⟨at_.env.mono e1, s1⟩, h1, fun d S2 u μ2 H2 h2 e2 s2 r2 => ?_, ox.ext e1⟩
    dsimp only at h2
    split at h2
    · cases r2
      obtain ⟨xs, g2, h2⟩ := mlst_inv h2
      have g' := e2.mu _ _ g
      obtain ⟨vs, hv, q⟩ := s2.lst g' g2
      unfold popAtK at h2
      split at h2
      · rename_i k hk
        split at h2
        · rename_i dd hd
          obtain ⟨w, hw, rw_⟩ := q.get hd
          obtain ⟨e', s'⟩ := s2.setLst g' g2 (q.eraseIdx k)
          exact ⟨_, _, _, k, w, rfl, rfl, hv, h2.1.1, h2.1.2, by rw [← q.length]; exact (ixN_seq hk).1, hw, ok _ _ _ _ _ h2.2 ((e1.trans e2).trans e') s' (rw_.mono e')⟩
        · exact h2.elim
      · exact h2.elim
    · exact h2.elim
  · exact h1.elim

/-! ### texts -/
theorem de_fmt (ha : PE X a (dE X.K W ta)) : PE X (.FormattedValue a (-1) none pos) (dE X.K W (eFmt ta)) := by
  refine (pe_fmt ha).imp fun σ H Q ⟨ρ, μ, S, R, Rx, at_, h, ok, ox⟩ => ?_
  refine ⟨ρ, μ, S, _, Rx, at_, h, fun x S1 v μ1 H1 h1 e1 s1 r1 => ?_, ox⟩
  dsimp only at h1
  split at h1
  · cases r1
    exact .inl ⟨_, rfl, h1.1, ok _ _ _ _ _ h1.2 e1 s1 (.str _)⟩
  · cases r1
    exact .inr ⟨_, rfl, h1.1, ok _ _ _ _ _ h1.2 e1 s1 (.str _)⟩
  · exact h1.elim
inductive DJ (X : Cx) (W : WX) : List Expr → TDJ → Prop where
  | nil : DJ X W [] jNil
  | cons {e : Expr} {t : TD} {es : List Expr} {r : TDJ} (h : PE X e (dE X.K W t)) (q : DJ X W es r) : DJ X W (e :: es) (jCons t r)
theorem dj_ts {es : List Expr} {j : TDJ} (h : DJ X W es j) : ∃ ts, PJ X es ts ∧ ∀ σ H Q acc ρ μ S R Rx, At X.K σ H ρ μ S → j Rx ρ S acc R → (∀ out S' μ' H', R out S' → Ext X.K H μ H' μ' → Sim X.K H' μ' S' → Q out H') → OkX X.K H μ Rx (wAt W σ) → tJs ts acc σ H Q := by
  induction h with
  | nil => exact ⟨[], .nil, fun σ H Q acc ρ μ S R Rx at_ h ok ox => ok _ _ _ _ h Ext.refl at_.sim⟩
  | @cons e t es r h q ih =>
    obtain ⟨ts, hp, hq⟩ := ih
    refine ⟨dE X.K W t :: ts, .cons h hp, fun σ H Q acc ρ μ S R Rx at_ h ok ox => ?_⟩
    refine ⟨ρ, μ, S, _, Rx, at_, h, fun x S1 v μ1 H1 h1 e1 s1 r1 => ?_, ox⟩
    dsimp only at h1
    split at h1
    · cases r1
      exact ⟨_, rfl, h1.1, hq σ H1 Q _ ρ μ1 S1 R Rx ⟨at_.env.mono e1, s1⟩ h1.2 (fun out S' μ' H' h' e s => ok out S' μ' H' h' (e1.trans e) s) (ox.ext e1)⟩
    · exact h1.elim
theorem de_joined {v1 v2 : Expr} {rest : List Expr} {j : TDJ} (h : DJ X W (v1 :: v2 :: rest) j) : PE X (.JoinedStr (v1 :: v2 :: rest) pos) (dE X.K W (eJoined j)) := by
  obtain ⟨ts, hp, hq⟩ := dj_ts h
  exact (pe_joined hp).imp fun σ H Q ⟨ρ, μ, S, R, Rx, at_, h, ok, ox⟩ => hq σ H _ _ ρ μ S _ Rx at_ h (fun out S' μ' H' h' e s => ok _ _ _ _ _ h' e s (.str _)) ox
theorem de_joined1 (ha : PE X a (dE X.K W ta)) : PE X (.JoinedStr [a] pos) (dE X.K W ta) := pe_joined1 ha

/-! ### calls of defs -/
theorem de_call {k : Nat} {f : Addr} {fd : FuncData} {ps : List Str} {sp : DSp} {x : Str} {p : Pos} (F : FnOk X.prog X.w X.K X.mg X.base (L2.CX X.prog X.w) k f fd ps (dSp X.K n sp)) (hr : Room k X.A) (hm : X.mg x = some (.ref f)) (hk : PySem.W.keepIn X.K (.ref f) = true) (hb : Binds X.K fd ps [])
    (tk : Takes X W) (ha : PA X (a :: es) (dA X.K W n tr)) (hg : Gl X x := by rfl) (hdb : (x == ("__debug__" : Str)) = false := by decide) (he : starEach (a :: es) X.env = (false, eval a X.env) :: starEach es X.env := by rfl) (hpl : (backTo pos (starEach es X.env)).any (·.1) = false := by rfl) :
    PE X (.Call (.Name x p) (a :: es) [] pos) (dE X.K W (eCall sp tr)) := by
  refine (pe_callS F hr hg hm hk hb (fun σ => passAt tk σ) ha hdb he hpl).imp fun σ H Q ⟨ρ, μ, S, R, Rx, at_, h, ok, ox⟩ => ?_
  exact ⟨ρ, μ, S, _, Rx, at_, h, fun xs S1 vs μ1 H1 l1 h1 e1 s1 r1 => ⟨xs, μ1, S1, R, Rx, s1, r1, l1, h1.out, ok.ext e1, ox.ext e1⟩, ox⟩
theorem dk_nil : PK X [] (dA X.K W 0 aNil) := ⟨fun pos pins s σ H Q I ⟨ρ, μ, S, R, Rx, at_, h, ok, ox⟩ => pk_nil.run pos pins s σ H Q I (ok _ _ _ _ _ rfl h Ext.refl at_.sim .nil)⟩
theorem dk_cons {kws : List Keyword} {nm : Option Str} {kpos : Pos} (ha : PE X a (dE X.K W ta)) (hr : PK X kws (dA X.K W n tr)) : PK X (⟨nm, a, kpos⟩ :: kws) (dA X.K W (n + 1) (aCons ta tr)) := by
  refine ⟨fun pos pins s σ H Q I ⟨ρ, μ, S, R, Rx, at_, h, ok, ox⟩ => (pk_cons ha hr).run pos pins s σ H Q I ?_⟩
  refine ⟨ρ, μ, S, _, Rx, at_, h, fun d S' v μ' H' h' e s r => ?_, ox⟩
  refine ⟨ρ, μ', S', _, Rx, ⟨at_.env.mono e, s⟩, h', fun ds S2 vs μ2 H2 l2 h2 e2 s2 r2 => ?_, ox.ext e⟩
  exact ok _ _ _ _ _ (by rw [List.length_cons, l2]) h2 (e.trans e2) s2 (.cons (r.mono e2) r2)
theorem vals_pick {vs : List V} {us : List Value} (r : Vals vs us) : ∀ π : List Nat, Vals (pick π vs) (pick π us)
  | [] => .nil
  | i :: π => by
    unfold pick
    rw [List.filterMap_cons, List.filterMap_cons]
    cases e : vs[i]? with
    | none => rw [r.none_of e]; exact vals_pick r π
    | some v =>
      obtain ⟨u, h1, h2⟩ := r.get e
      rw [h1]
      exact .cons h2 (vals_pick r π)
theorem Reps.none_of {K : PySem.W.Frag} {H : Hp} {μ : List Addr} {xs : List D} {vs : List V} {i : Nat} (r : Reps K H μ xs vs) (e : xs[i]? = none) : vs[i]? = none := by
  have h1 := r.length
  have h2 : xs.length ≤ i := List.getElem?_eq_none_iff.mp e
  exact List.getElem?_eq_none_iff.mpr (by omega)
theorem Reps.pick {K : PySem.W.Frag} {H : Hp} {μ : List Addr} {xs : List D} {vs : List V} (r : Reps K H μ xs vs) : ∀ π : List Nat, Reps K H μ (pick π xs) (pick π vs)
  | [] => .nil
  | i :: π => by
    unfold DL.pick
    rw [List.filterMap_cons, List.filterMap_cons]
    cases e : xs[i]? with
    | none => rw [r.none_of e]; exact Reps.pick r π
    | some v =>
      obtain ⟨u, h1, h2⟩ := r.get e
      rw [h1]
      exact .cons h2 (Reps.pick r π)
theorem pick_length {α : Type} {l : List α} : ∀ {π : List Nat}, (∀ i ∈ π, i < l.length) → (pick π l).length = π.length
  | [], _ => rfl
  | i :: π, h => by
    unfold pick
    rw [List.filterMap_cons, List.getElem?_eq_getElem (h i (by simp))]
    simp only [List.length_cons]
    rw [show (List.filterMap (fun i => l[i]?) π).length = π.length from pick_length fun j hj => h j (by simp [hj])]
/-- a call with keywords: the j-th parameter is the π[j]-th of what is written -/
structure KPi (K : PySem.W.Frag) (fd : FuncData) (ps : List Str) (n : Nat) (ks : List Str) (π : List Nat) : Prop where
  to : ∀ (s : Shared) (us ws : List Value), us.length = n → ws.length = ks.length → BindsTo s fd ⟨us, ks.zip ws⟩ (ps.zip (pick π (us ++ ws)))
theorem kpi_of {K : PySem.W.Frag} {x qual : Str} {params : Arguments} {body : List Stmt} {scope : Scope} {f : Addr} {fd : FuncData} {ps ks : List Str} {π : List Nat} {n : Nat} (F : FunD K x qual params body scope [] [] f fd)
    (h : ∀ (kV doc pm : Value) (an : Option Addr) (cdv ct : Value) (us ws : List Value), us.length = n → ws.length = ks.length → bindArgs (PySem.W.fnOf x qual params body scope .none kV doc pm an cdv ct) ⟨us, ks.zip ws⟩ = pure (ps.zip (pick π (us ++ ws)))) : KPi K fd ps n ks π := by
  obtain ⟨oc, od, dV, kV, doc, pm, an, cdv, ct, osl, rfl, lk, hcd, hD, hK⟩ := F.ex
  rcases hD with ⟨_, rfl⟩ | ⟨e, _⟩
  · exact ⟨fun s us ws l1 l2 => .of_eq (h kV doc pm an cdv ct us ws l1 l2)⟩
  · exact absurd rfl e
theorem passesE {E : XK} (tk : Takes X W) (σ : L2.St) (h : E = WE W σ) : PassesAt (L2.CX X.prog X.w) X σ E := by
  subst h
  exact passAt tk σ
/-- the callee of a call with keywords runs -/
theorem run_kw {k : Nat} {f : Addr} {fd : FuncData} {ps ks : List Str} {π : List Nat} {sp : DSp} {pins : List (Addr × Obj)} {σ : L2.St} {H : Hp} {s : Shared} {Q : VK} {us ws : List Value} {vs zs : List V} {N : Nat}
    (F : FnOk X.prog X.w X.K X.mg X.base (L2.CX X.prog X.w) k f fd ps (dSp X.K N sp)) (hr : Room k X.A) (hb : KPi X.K fd ps n ks π) (tk : Takes X W) (I : Inv X pins σ H s) (r : Vals vs us) (rz : Vals zs ws) (l1 : vs.length = n) (l2 : zs.length = ks.length)
    (h : dSp X.K N sp (pick π (vs ++ zs)) H Q (WE W σ)) : wpAny (model X.prog X.w) X.A (call (.ref f) us (ks.zip ws)) (EP X pins σ Q) X.xe s := by
  refine wpAny_call (codeAny_mono (F.run X.A X.stack s H ⟨us, ks.zip ws⟩ (pick π (us ++ ws)) (pick π (vs ++ zs)) Q (WE W σ) hr I.env0 (hb.to s us ws (by rw [← r.length, l1]) (by rw [← rz.length, l2])) (vals_pick (r.append rz) π) h) fun res s' hq => ?_)
  rcases res with e | fl
  · exact passAt tk σ pins H s e s' I hq
  · rcases fl with _ | _ | _ | u
    all_goals first | exact I.after hq | exact False.elim hq
def dKw (K : PySem.W.Frag) (W : WX) (n m : Nat) (sp : DSp) (π : List Nat) (tr tk : TDA) : TE := dE K W (eCallK sp π tr tk)
theorem de_callK {k N : Nat} {f : Addr} {fd : FuncData} {ps ks : List Str} {π : List Nat} {sp : DSp} {x : Str} {p : Pos} {kws : List Keyword} (F : FnOk X.prog X.w X.K X.mg X.base (L2.CX X.prog X.w) k f fd ps (dSp X.K N sp)) (hr : Room k X.A) (hm : X.mg x = some (.ref f))
    (hk : PySem.W.keepIn X.K (.ref f) = true) (hb : KPi X.K fd ps n ks π) (hN : π.length = N) (hπ : ∀ i ∈ π, i < n + ks.length) (tks : Takes X W) (ha : PA X (a :: es) (dA X.K W n tr)) (hkw : PK X kws (dA X.K W ks.length tk)) (hg : Gl X x := by rfl)
    (hall : (backToKw pos (keywordEach kws X.env)).all (·.1.isSome) = true := by rfl) (hks : (backToKw pos (keywordEach kws X.env)).filterMap (·.1) = ks := by rfl) (hdb : (x == ("__debug__" : Str)) = false := by decide)
    (he : starEach (a :: es) X.env = (false, eval a X.env) :: starEach es X.env := by rfl) (hpl : ((backTo pos (starEach (a :: es) X.env)).any (·.1) || (backToKw pos (keywordEach kws X.env)).any (·.1.isNone)) = false := by rfl) :
    PE X (.Call (.Name x p) (a :: es) kws pos) (dE X.K W (eCallK sp π tr tk)) := by
  refine ⟨fun pins s σ H Q I ⟨ρ, μ, S, R, Rx, at_, h, ok, ox⟩ => wpAny_Call_Name_kw (ld_glob I hg hm ?_ hdb)⟩
  refine PySem.W.callWith_KW (h₀ := X.base) I.ok.mod.kin hk hall (thn (ha.run pos pins s σ H (fun vs H1 => vs.length = n ∧ dA X.K W ks.length tk σ H1 (fun zs H2 => zs.length = ks.length ∧ dSp X.K N sp (pick π (vs ++ zs)) H2 Q (WE W σ))) I ?_) fun us s1 ⟨vs, H1, I1, r, l1, q⟩ => ?_) hpl he
  · refine ⟨ρ, μ, S, _, Rx, at_, h, fun xs S1 vs μ1 H1 l1 h1 e1 s1 r1 => ⟨by rw [← r1.length, l1], ρ, μ1, S1, _, Rx, ⟨at_.env.mono e1, s1⟩, h1, fun ys S2 zs μ2 H2 l2 h2 e2 s2 r2 => ⟨by rw [← r2.length, l2], ?_⟩, ox.ext e1⟩, ox⟩
    refine ⟨_, μ2, S2, R, Rx, s2, ((r1.mono e2).append r2).pick π, ?_, h2.out, ok.ext (e1.trans e2), ox.ext (e1.trans e2)⟩
    rw [pick_length fun i hi => by rw [List.length_append, l1, l2]; exact hπ i hi, hN]
  · refine thn (hkw.run pos pins s1 σ H1 _ I1 q) fun ws s2 ⟨zs, H2, I2, rz, l2, q2⟩ => ⟨I2.kIn, ?_⟩
    rw [hks]
    exact run_kw F hr hb tks I2 r rz l1 l2 q2
/-- .. keywords alone -/
theorem de_callK0 {k N : Nat} {f : Addr} {fd : FuncData} {ps ks : List Str} {π : List Nat} {sp : DSp} {x : Str} {p : Pos} {kws : List Keyword} (F : FnOk X.prog X.w X.K X.mg X.base (L2.CX X.prog X.w) k f fd ps (dSp X.K N sp)) (hr : Room k X.A) (hm : X.mg x = some (.ref f))
    (hk : PySem.W.keepIn X.K (.ref f) = true) (hb : KPi X.K fd ps 0 ks π) (hN : π.length = N) (hπ : ∀ i ∈ π, i < ks.length) (tks : Takes X W) (hkw : PK X kws (dA X.K W ks.length tk)) (hg : Gl X x := by rfl)
    (hall : (backToKw pos (keywordEach kws X.env)).all (·.1.isSome) = true := by rfl) (hks : (backToKw pos (keywordEach kws X.env)).filterMap (·.1) = ks := by rfl) (hdb : (x == ("__debug__" : Str)) = false := by decide)
    (hpl : ((backTo pos (starEach [] X.env)).any (·.1) || (backToKw pos (keywordEach kws X.env)).any (·.1.isNone)) = false := by rfl) :
    PE X (.Call (.Name x p) [] kws pos) (dE X.K W (eCallK sp π aNil tk)) := by
  refine ⟨fun pins s σ H Q I ⟨ρ, μ, S, R, Rx, at_, h, ok, ox⟩ => wpAny_Call_Name_kw (ld_glob I hg hm ?_ hdb)⟩
  refine PySem.W.callWith_KW0 (h₀ := X.base) I.ok.mod.kin hk hall (thn (hkw.run pos pins s σ H (fun zs H2 => zs.length = ks.length ∧ dSp X.K N sp (pick π ([] ++ zs)) H2 Q (WE W σ)) I ?_) fun ws s2 ⟨zs, H2, I2, rz, l2, q2⟩ => ⟨I2.kIn, ?_⟩) hpl
  · refine ⟨ρ, μ, S, _, Rx, at_, h, fun ys S2 zs μ2 H2 l2 h2 e2 s2 r2 => ⟨by rw [← r2.length, l2], ?_⟩, ox⟩
    refine ⟨_, μ2, S2, R, Rx, s2, (Reps.append .nil r2).pick π, ?_, h2.out, ok.ext e2, ox.ext e2⟩
    rw [pick_length fun i hi => by rw [List.nil_append, l2]; exact hπ i hi, hN]
  · rw [hks]
    exact run_kw (us := []) F hr hb tks I2 .nil rz rfl l2 q2
end
end DL
namespace DL
open PySem PySem.Spec PyProof.Rows L2

/-! ### statements' readings -/
abbrev DEnds.x (E : DEnds) (ρ : Ev) : RX := fun x S => E.ex x ρ S
def sNext : TDS := fun E ρ S => E.nx ρ S
def sBreak : TDS := fun E ρ S => E.bk ρ S
def sCont : TDS := fun E ρ S => E.ct ρ S
def sSeq (t u : TDS) : TDS := fun E ρ S => t { E with nx := u E } ρ S
def sRet (te : TD) : TDS := fun E ρ S => te (E.x ρ) ρ S E.rt
def sRetN : TDS := fun E _ S => E.rt .non S
def sExpr (te : TD) : TDS := fun E ρ S => te (E.x ρ) ρ S fun _ S1 => E.nx ρ S1
def sIf (c : TDT) (t u : TDS) : TDS := fun E ρ S => c (E.x ρ) ρ S fun b S1 => ift b (t E ρ S1) (u E ρ S1)
def sSet (i : Nat) (te : TD) : TDS := fun E ρ S => te (E.x ρ) ρ S fun d S1 => E.nx (ρ.set i (some d)) S1
def sPar (i j : Nat) (ta : TDA) : TDS := fun E ρ S => ta (E.x ρ) ρ S fun xs S1 => match xs with
  | [u, v] => E.nx ((ρ.set i (some u)).set j (some v)) S1
  | _ => False
def sPar3 (i j l : Nat) (ta : TDA) : TDS := fun E ρ S => ta (E.x ρ) ρ S fun xs S1 => match xs with
  | [u, v, w] => E.nx (((ρ.set i (some u)).set j (some v)).set l (some w)) S1
  | _ => False
def sAug (i : Nat) (te : TD) (f : OD) : TDS := fun E ρ S => match ρ[i]? with
  | some (some x) => te (E.x ρ) ρ S fun y S1 => f x y S1 fun z S2 => E.nx (ρ.set i (some z)) S2
  | _ => False
def setK (xs : List D) (k : Int) (z : Nat → Prop) : Prop := match ixN xs.length k with
  | some j => z j
  | none => False
def sSetIx (to_ ti te : TD) : TDS := fun E ρ S => te (E.x ρ) ρ S fun v S1 => to_ (E.x ρ) ρ S1 fun o S2 => ti (E.x ρ) ρ S2 fun i S3 => match o, i with
  | .ref n, .int k => mlstAt n S3 fun xs => setK xs k fun j => E.nx ρ (S3.set n (.lst (xs.set j v)))
  | _, _ => False
def whileN (c : TDT) (t : TDS) (E : DEnds) : Nat → Ev → Sto → Prop
  | 0, _, _ => False
  | n + 1, ρ, S => c (E.x ρ) ρ S fun b S1 => ift b (t { E with nx := whileN c t E n, ct := whileN c t E n, bk := E.nx } ρ S1) (E.nx ρ S1)
def sWhile (c : TDT) (t : TDS) : TDS := fun E ρ S => ∃ n, whileN c t E n ρ S
/-! targets -/
abbrev TDG := D → Ev → Sto → (Ev → Sto → Prop) → Prop
abbrev TDGs := List D → Ev → Sto → (Ev → Sto → Prop) → Prop
def gNm (i : Nat) : TDG := fun d ρ S R => R (ρ.set i (some d)) S
def gsNil : TDGs := fun xs ρ S R => match xs with
  | [] => R ρ S
  | _ :: _ => False
def gsCons (g : TDG) (gs : TDGs) : TDGs := fun xs ρ S R => match xs with
  | x :: r => g x ρ S fun ρ1 S1 => gs r ρ1 S1 R
  | [] => False
def gTp (n : Nat) (gs : TDGs) : TDG := fun d ρ S R => match d with
  | .tup xs => xs.length = n ∧ gs xs ρ S R
  | _ => False
def sAsg (te : TD) (g : TDG) : TDS := fun E ρ S => te (E.x ρ) ρ S fun d S1 => g d ρ S1 E.nx
/-! what is walked -/
abbrev TDI := RX → Ev → Sto → (List D → (Sto → Prop) → Sto → Prop) → Prop
def noG : Sto → Prop := fun _ => True
def iSeq (t : TD) : TDI := fun Rx ρ S R => t Rx ρ S fun d S1 => match d with
  | .tup xs => R xs noG S1
  | .str z => R (z.cps.toList.map fun c => .str ⟨#[c]⟩) noG S1
  | .ref n => iterAt n S1 fun xs G => R xs G S1
  | _ => False
def rangeD (lo : Int) (n : Nat) : List D := (List.range n).map fun (i : Nat) => D.int (lo + (i : Int))
def iRange1 (t : TD) : TDI := fun Rx ρ S R => t Rx ρ S fun d S1 => match d with
  | .int j => (-(2 ^ 62) ≤ j ∧ j < 2 ^ 62) ∧ R (rangeD 0 j.toNat) noG S1
  | _ => False
def iRange2 (t u : TD) : TDI := fun Rx ρ S R => t Rx ρ S fun d S1 => u Rx ρ S1 fun e S2 => match d, e with
  | .int i, .int j => (-(2 ^ 62) ≤ i ∧ i < 2 ^ 62 ∧ -(2 ^ 62) ≤ j ∧ j < 2 ^ 62) ∧ R (rangeD i (j - i).toNat) noG S2
  | _, _ => False
def forW (G : Sto → Prop) (g : TDG) (t : TDS) (E : DEnds) : List D → Ev → Sto → Prop
  | [], ρ, S => G S ∧ E.nx ρ S
  | x :: r, ρ, S => G S ∧ g x ρ S fun ρ1 S1 => t { E with nx := forW G g t E r, ct := forW G g t E r, bk := E.nx } ρ1 S1
def sFor (it : TDI) (g : TDG) (t : TDS) : TDS := fun E ρ S => it (E.x ρ) ρ S fun xs G S1 => forW G g t E xs ρ S1
def noX : RX := fun _ _ => False
def wipeD (ρ : Ev) : List Nat → Ev
  | [] => ρ
  | v :: vs => (wipeD ρ vs).set v none
def lcW (n : Nat) (G : Sto → Prop) (g : TDG) (tt : TDT) (te : TD) (ρ : Ev) (R : Sto → Prop) : List D → Sto → Prop
  | [], S => G S ∧ R S
  | x :: r, S => G S ∧ g x ρ S fun ρ1 S1 => tt noX ρ1 S1 fun b S2 => ift b (te noX ρ1 S2 fun d S3 => mlstAt n S3 fun acc => acc.length < sizeLine ∧ lcW n G g tt te ρ R r (S3.set n (.lst (acc ++ [d])))) (lcW n G g tt te ρ R r S2)
def tYesD : TDT := fun _ _ S R => R true S
def eLC (it : TDI) (g : TDG) (tt : TDT) (te : TD) (vs : List Nat) : TD := fun Rx ρ S R => it Rx ρ S fun xs G S1 => lcW S1.length G g tt te (wipeD ρ vs) (fun S2 => R (.ref S1.length) S2) xs (S1 ++ [.lst []])

def dG (K : PySem.W.Frag) (vs : List Nat) (g : TDG) : TG := fun v σ H Q => ∃ ρ μ S d R, At K σ H ρ μ S ∧ Rep K H μ d v ∧ g d ρ S R ∧ ∀ ρ' S' σ' μ' H', R ρ' S' → wipe σ' vs = wipe σ vs → Ext K H μ H' μ' → At K σ' H' ρ' μ' S' → Q σ' H'
def dGs (K : PySem.W.Frag) (vs : List Nat) (g : TDGs) : TGs := fun us σ H Q => ∃ ρ μ S ds R, At K σ H ρ μ S ∧ Reps K H μ ds us ∧ g ds ρ S R ∧ ∀ ρ' S' σ' μ' H', R ρ' S' → wipe σ' vs = wipe σ vs → Ext K H μ H' μ' → At K σ' H' ρ' μ' S' → Q σ' H'
def WalkD (K : PySem.W.Frag) (H : Hp) (μ : List Addr) (J : It) (xs : List D) (G : Sto → Prop) : Prop := ∃ (Gv : Hp → Prop) (Y : Nat → Hp → V → Hp → Prop), Walk J xs.length Gv Y ∧
  (∀ H' μ' S, Ext K H μ H' μ' → Sim K H' μ' S → G S → Gv H') ∧
  ∀ (i : Nat) v H' H'' μ' S d, Ext K H μ H' μ' → Sim K H' μ' S → G S → xs[i]? = some d → Y i H' v H'' → Ext K H' μ' H'' μ' ∧ Sim K H'' μ' S ∧ Rep K H'' μ' d v
def dI (K : PySem.W.Frag) (W : WX) (it : TDI) : TI := fun σ H R => ∃ ρ μ S Rd Rx, At K σ H ρ μ S ∧ it Rx ρ S Rd ∧ OkX K H μ Rx (wAt W σ) ∧ ∀ xs G S' μ' H' J, Rd xs G S' → Ext K H μ H' μ' → Sim K H' μ' S' → WalkD K H' μ' J xs G → R J H'

section
variable {K : PySem.W.Frag} {H H' : Hp} {μ μ' : List Addr} {S : Sto} {ρ : Ev} {σ : L2.St}
theorem RepE.set (r : RepE K H μ ρ σ) {d : D} {v : V} (q : Rep K H μ d v) (i : Nat) : RepE K H μ (ρ.set i (some d)) (σ.set i (some v)) := by
  refine ⟨by rw [List.length_set, List.length_set, r.len], fun j e he => ?_⟩
  by_cases h : i = j
  · subst h
    have hl : i < ρ.length := by
      have := (List.getElem?_eq_some_iff.mp he).1
      rwa [List.length_set] at this
    rw [List.getElem?_set_self hl] at he
    cases he
    exact ⟨v, by rw [List.getElem?_set_self (by rw [r.len]; exact hl)], q⟩
  · rw [List.getElem?_set_ne h] at he ⊢
    exact r.at_ j e he
theorem RepE.unset (r : RepE K H μ ρ σ) (i : Nat) : RepE K H μ (ρ.set i none) (σ.set i none) := by
  refine ⟨by rw [List.length_set, List.length_set, r.len], fun j e he => ?_⟩
  by_cases h : i = j
  · subst h
    have hl : i < ρ.length := by
      have := (List.getElem?_eq_some_iff.mp he).1
      rwa [List.length_set] at this
    rw [List.getElem?_set_self hl] at he
    cases he
  · rw [List.getElem?_set_ne h] at he ⊢
    exact r.at_ j e he
theorem RepE.wipe (r : RepE K H μ ρ σ) : ∀ vs : List Nat, RepE K H μ (wipeD ρ vs) (L2.wipe σ vs)
  | [] => r
  | v :: vs => (RepE.wipe r vs).unset v
theorem wipe_set {x : Option V} : ∀ {vs : List Nat} {i : Nat} {σ : L2.St}, i ∈ vs → L2.wipe (σ.set i x) vs = L2.wipe σ vs
  | [], _, _, h => by simp at h
  | v :: vs, i, σ, h => by
    show (L2.wipe (σ.set i x) vs).set v none = (L2.wipe σ vs).set v none
    by_cases hi : i ∈ vs
    · rw [wipe_set hi]
    · have hv : i = v := by
        rcases List.mem_cons.mp h with e | e
        · exact e
        · exact absurd e hi
      subst hv
      have key : ∀ (vs : List Nat), L2.wipe (σ.set i x) vs = (L2.wipe σ vs).set i ((L2.wipe (σ.set i x) vs)[i]?.getD none) := by
        intro vs
        induction vs with
        | nil =>
          show σ.set i x = σ.set i ((σ.set i x)[i]?.getD none)
          by_cases hl : i < σ.length
          · rw [List.getElem?_set_self hl]; rfl
          · rw [List.set_eq_of_length_le (by omega), List.set_eq_of_length_le (by omega)]
        | cons w ws ih =>
          show (L2.wipe (σ.set i x) ws).set w none = ((L2.wipe σ ws).set w none).set i (((L2.wipe (σ.set i x) ws).set w none)[i]?.getD none)
          by_cases hw : w = i
          · subst hw
            rw [List.set_set]
            have hlen : (L2.wipe (σ.set w x) ws).length = (L2.wipe σ ws).length := by rw [wipe_length, wipe_length, List.length_set]
            by_cases hl : w < (L2.wipe (σ.set w x) ws).length
            · rw [List.getElem?_set_self hl]
              rw [ih, List.set_set]; rfl
            · have h1 : (L2.wipe (σ.set w x) ws).length ≤ w := by omega
              have h2 : (L2.wipe σ ws).length ≤ w := by omega
              rw [List.set_eq_of_length_le h1, List.set_eq_of_length_le h2]
              exact ih.trans (List.set_eq_of_length_le h2)
          · rw [List.getElem?_set_ne hw, List.set_comm _ _ hw, ← ih]
      rw [key vs, List.set_set]
end

section
variable {X : Cx} {W : WX} {a b c o : Expr} {ta tb te to_ ti : TD} {tc : TDT} {t u : TDS} {pos : Pos} {es : List Expr} {tr : TDA} {n : Nat} {st : Stmt} {rest sa sb : List Stmt}
/-! ### the rules: small statements -/
theorem ds_nil : PSs X [] (dS X.K W sNext) := pss_nil.imp fun Z σ H ⟨ρ, μ, S, E, at_, h, k⟩ => k.nx _ _ _ _ _ h Ext.refl at_
theorem ds_cons (h1 : PS X st (dS X.K W t)) (h2 : PSs X rest (dS X.K W u)) : PSs X (st :: rest) (dS X.K W (sSeq t u)) := by
  refine (pss_cons h1 h2).imp fun Z σ H ⟨ρ, μ, S, E, at_, h, k⟩ => ?_
  exact ⟨ρ, μ, S, _, at_, h, fun ρ' S' σ' μ' H' h' e a' => ⟨ρ', μ', S', E, a', h', k.ext e⟩, k.rt, k.bk, k.ct, k.ex⟩
theorem ds_one (h1 : PS X st (dS X.K W t)) : PSs X [st] (dS X.K W t) := pss_one h1
theorem ds_pass : PS X (.Pass pos) (dS X.K W sNext) := ps_pass.imp fun Z σ H ⟨ρ, μ, S, E, at_, h, k⟩ => k.nx _ _ _ _ _ h Ext.refl at_
theorem ds_break : PS X (.Break pos) (dS X.K W sBreak) := ps_break.imp fun Z σ H ⟨ρ, μ, S, E, at_, h, k⟩ => k.bk _ _ _ _ _ h Ext.refl at_
theorem ds_continue : PS X (.Continue pos) (dS X.K W sCont) := ps_continue.imp fun Z σ H ⟨ρ, μ, S, E, at_, h, k⟩ => k.ct _ _ _ _ _ h Ext.refl at_
theorem ds_ret (ha : PE X a (dE X.K W te)) : PS X (.Return (some a) pos) (dS X.K W (sRet te)) :=
  (ps_ret ha).imp fun Z σ H ⟨ρ, μ, S, E, at_, h, k⟩ => ⟨ρ, μ, S, _, _, at_, h, fun d S' v μ' H' h' e s r => k.rt _ _ _ _ _ h' e s r, k.x at_.env⟩
theorem ds_retN : PS X (.Return none pos) (dS X.K W sRetN) := ps_retN.imp fun Z σ H ⟨ρ, μ, S, E, at_, h, k⟩ => k.rt _ _ _ _ _ h Ext.refl at_.sim .non
theorem ds_expr (ha : PE X a (dE X.K W te)) (hs : swapsWith a none pos.line X.env = pure false := by rfl) : PS X (.Expr a pos) (dS X.K W (sExpr te)) :=
  (ps_expr ha hs).imp fun Z σ H ⟨ρ, μ, S, E, at_, h, k⟩ => ⟨ρ, μ, S, _, _, at_, h, fun d S' v μ' H' h' e s r => k.nx _ _ _ _ _ h' e ⟨at_.env.mono e, s⟩, k.x at_.env⟩
theorem ds_if (hc : PT X c (dT X.K W tc)) (h1 : PSs X sa (dS X.K W t)) (h2 : PSs X sb (dS X.K W u)) : PS X (.If c sa sb pos) (dS X.K W (sIf tc t u)) := by
  refine (ps_if hc h1 h2).imp fun Z σ H ⟨ρ, μ, S, E, at_, h, k⟩ => ?_
  refine ⟨ρ, μ, S, _, _, at_, h, fun b S' μ' H' h' e s => ?_, k.x at_.env⟩
  cases b with
  | true => exact ⟨ρ, μ', S', E, ⟨at_.env.mono e, s⟩, ift_t h', k.ext e⟩
  | false => exact ⟨ρ, μ', S', E, ⟨at_.env.mono e, s⟩, ift_f h', k.ext e⟩
theorem ds_set {i : Nat} {x : Str} {pos' : Pos} (hN : X.N.Nodup) (ha : PE X a (dE X.K W te)) (hi : X.N[i]? = some x := by rfl) (hx : Loc X.env.scope x := by first | exact Or.inl rfl | exact Or.inr rfl) (hs : swapsWith a (some (.Name x pos')) pos.line X.env = pure false := by rfl)
    (hf : X.fn x = true ∨ X.env.scope.names.lookup x = some .local := by first | exact .inl rfl | exact .inr rfl | assumption) : PS X (.Assign [.Name x pos'] a pos) (dS X.K W (sSet i te)) :=
  (ps_set hN hi hx ha hs hf).imp fun Z σ H ⟨ρ, μ, S, E, at_, h, k⟩ => ⟨ρ, μ, S, _, _, at_, h, fun d S' v μ' H' h' e s r => k.nx _ _ _ _ _ h' e ⟨(at_.env.mono e).set r i, s⟩, k.x at_.env⟩
theorem ds_par {i j : Nat} {x y : Str} {px py pt : Pos} {kt k2 : Nat} {pt2 : Pos} (hN : X.N.Nodup) (hc : X.calm = true) (ha : PA X [a, b] (dA X.K W n tr)) (hi : X.N[i]? = some x := by rfl) (hj : X.N[j]? = some y := by rfl) (hij : i ≠ j := by decide)
    (hx : X.env.scope.names.lookup x = some .local := by rfl) (hy : X.env.scope.names.lookup y = some .local := by rfl)
    (hw : swappedStores [.Tuple [.Name x px, .Name y py] kt pt] (.Tuple [a, b] k2 pt2) X.env = pure (some [x, y]) := by rfl) (hs : swapsWithSole [.Tuple [.Name x px, .Name y py] kt pt] (.Tuple [a, b] k2 pt2) pos.line X.env = pure false := by rfl) :
    PS X (.Assign [.Tuple [.Name x px, .Name y py] kt pt] (.Tuple [a, b] k2 pt2) pos) (dS X.K W (sPar i j tr)) := by
  refine (ps_par hc hN hi hj hij hx hy ha hw hs).imp fun Z σ H ⟨ρ, μ, S, E, at_, h, k⟩ => ?_
  refine ⟨ρ, μ, S, _, _, at_, h, fun ds S' vs μ' H' _ h' e s r => ?_, k.x at_.env⟩
  dsimp only at h'
  split at h'
  · cases r with | cons r1 r =>
    cases r with | cons r2 r =>
    cases r
    exact ⟨_, _, rfl, k.nx _ _ _ _ _ h' e ⟨((at_.env.mono e).set r1 i).set r2 j, s⟩⟩
  · exact h'.elim
theorem ds_par3 {i j l : Nat} {x y z : Str} {px py pz pt : Pos} {kt k2 : Nat} {pt2 : Pos} (hN : X.N.Nodup) (hc : X.calm = true) (ha : PA X [a, b, c] (dA X.K W n tr)) (hi : X.N[i]? = some x := by rfl) (hj : X.N[j]? = some y := by rfl) (hl : X.N[l]? = some z := by rfl)
    (hij : i ≠ j := by decide) (hil : i ≠ l := by decide) (hjl : j ≠ l := by decide)
    (hx : X.env.scope.names.lookup x = some .local := by rfl) (hy : X.env.scope.names.lookup y = some .local := by rfl) (hz : X.env.scope.names.lookup z = some .local := by rfl)
    (hw : swappedStores [.Tuple [.Name x px, .Name y py, .Name z pz] kt pt] (.Tuple [a, b, c] k2 pt2) X.env = pure (some [x, y, z]) := by rfl) (hs : swapsWithSole [.Tuple [.Name x px, .Name y py, .Name z pz] kt pt] (.Tuple [a, b, c] k2 pt2) pos.line X.env = pure false := by rfl) :
    PS X (.Assign [.Tuple [.Name x px, .Name y py, .Name z pz] kt pt] (.Tuple [a, b, c] k2 pt2) pos) (dS X.K W (sPar3 i j l tr)) := by
  refine (ps_par3 hc hN hi hj hl hij hil hjl hx hy hz ha hw hs).imp fun Z σ H ⟨ρ, μ, S, E, at_, h, k⟩ => ?_
  refine ⟨ρ, μ, S, _, _, at_, h, fun ds S' vs μ' H' _ h' e s r => ?_, k.x at_.env⟩
  dsimp only at h'
  split at h'
  · cases r with | cons r1 r =>
    cases r with | cons r2 r =>
    cases r with | cons r3 r =>
    cases r
    exact ⟨_, _, _, rfl, k.nx _ _ _ _ _ h' e ⟨(((at_.env.mono e).set r1 i).set r2 j).set r3 l, s⟩⟩
  · exact h'.elim
theorem ds_aug {i : Nat} {x : Str} {op : Operator} {r : R2} {f : OD} {pos' : Pos} (hN : X.N.Nodup) (ha : PE X a (dE X.K W te)) (ho : OpR X (inplaceOp op) r) (br : Br2 X.K r f) (hi : X.N[i]? = some x := by rfl) (hx : Loc X.env.scope x := by first | exact Or.inl rfl | exact Or.inr rfl)
    (hf : X.fn x = true ∨ X.env.scope.names.lookup x = some .local := by first | exact .inl rfl | exact .inr rfl | assumption) : PS X (.AugAssign (.Name x pos') op a pos) (dS X.K W (sAug i te f)) := by
  refine (ps_aug hN hi hx ha ho hf).imp fun Z σ H ⟨ρ, μ, S, E, at_, h, k⟩ => ?_
  unfold sAug at h
  split at h
  · rename_i d ed
    obtain ⟨v, hv, rv⟩ := at_.env.at_ i d ed
    refine ⟨v, hv, ρ, μ, S, _, _, at_, h, fun d2 S' w μ' H' h' e s rw_ => ?_, k.x at_.env⟩
    exact br d d2 S' _ v w μ' H' _ s (rv.mono e) rw_ h' fun d3 S3 z μ3 H3 h3 e3 s3 r3 => k.nx _ _ _ _ _ h3 (e.trans e3) ⟨(at_.env.mono (e.trans e3)).set r3 i, s3⟩
  · exact h.elim
theorem iop_addD : OpR X (inplaceOp .Add) (fun x y H Q => rI0 (fun i j => .int (i + j)) x y H Q ∨ ∃ i j, x = .str i ∧ y = .str j ∧ i.length + j.length ≤ sizeLine ∧ Q (.str (i ++ j)) H) := iop_add.or iop_add_str
def iaddD : OD
  | .int i, .int j => fun S R => R (.int (i + j)) S
  | .str x, .str y => fun S R => x.length + y.length ≤ sizeLine ∧ R (.str (x ++ y)) S
  | _, _ => fun _ _ => False
theorem br_iadd : Br2 X.K (fun x y H Q => rI0 (fun i j => .int (i + j)) x y H Q ∨ ∃ i j, x = .str i ∧ y = .str j ∧ i.length + j.length ≤ sizeLine ∧ Q (.str (i ++ j)) H) iaddD := by
  intro x y S R vx vy μ H Q s r1 r2 h ok
  unfold iaddD at h
  split at h
  · cases r1; cases r2
    exact .inl ⟨_, _, rfl, rfl, ok _ _ _ _ _ h Ext.refl s (.int _)⟩
  · cases r1; cases r2
    exact .inr ⟨_, _, rfl, rfl, h.1, ok _ _ _ _ _ h.2 Ext.refl s (.str _)⟩
  · exact h.elim
theorem ds_augAdd {i : Nat} {x : Str} {pos' : Pos} (hN : X.N.Nodup) (ha : PE X a (dE X.K W te)) (hi : X.N[i]? = some x := by rfl) (hx : Loc X.env.scope x := by first | exact Or.inl rfl | exact Or.inr rfl)
    (hf : X.fn x = true ∨ X.env.scope.names.lookup x = some .local := by first | exact .inl rfl | exact .inr rfl | assumption) : PS X (.AugAssign (.Name x pos') .Add a pos) (dS X.K W (sAug i te iaddD)) := ds_aug hN ha iop_addD br_iadd hi hx hf
theorem ds_augSub {i : Nat} {x : Str} {pos' : Pos} (hN : X.N.Nodup) (ha : PE X a (dE X.K W te)) (hi : X.N[i]? = some x := by rfl) (hx : Loc X.env.scope x := by first | exact Or.inl rfl | exact Or.inr rfl)
    (hf : X.fn x = true ∨ X.env.scope.names.lookup x = some .local := by first | exact .inl rfl | exact .inr rfl | assumption) : PS X (.AugAssign (.Name x pos') .Sub a pos) (dS X.K W (sAug i te subD)) := ds_aug hN ha iop_sub br_sub hi hx hf
theorem ds_setIx {opos : Pos} (he : PE X a (dE X.K W te)) (ho : PE X o (dE X.K W to_)) (hi : PE X b (dE X.K W ti)) (hs : swapsWithSole [.Subscript o b opos] a pos.line X.env = pure false := by rfl) (hw : swappedStores [.Subscript o b opos] a X.env = pure none := by rfl)
    (h1 : (assignEach [.Subscript o b opos] X.env).map (·.2) = [assign (.Subscript o b opos) X.env] := by rfl)
    (hp : ∀ v, assign (.Subscript o b opos) X.env v = (do
      let ov ← holding [v] (eval o X.env)
      let iv ← holding [v, ov] (eval b X.env)
      standAt opos
      holding [v, ov, iv] (setItem ov iv v)
      release [v, ov, iv] []) := by intro _; rfl) :
    PS X (.Assign [.Subscript o b opos] a pos) (dS X.K W (sSetIx to_ ti te)) := by
  refine (ps_asg he (pg_sub ho hi set_list hp) hs hw h1).imp fun Z σ H ⟨ρ, μ, S, E, at_, h, k⟩ => ?_
  refine ⟨ρ, μ, S, _, _, at_, h, fun v S1 vv μ1 H1 h1 e1 s1 r1 => ?_, k.x at_.env⟩
  refine ⟨ρ, μ1, S1, _, _, ⟨at_.env.mono e1, s1⟩, h1, fun ob S2 vo μ2 H2 h2 e2 s2 r2 => ?_, (k.x at_.env).ext e1⟩
  refine ⟨ρ, μ2, S2, _, _, ⟨at_.env.mono (e1.trans e2), s2⟩, h2, fun ix S3 vi μ3 H3 h3 e3 s3 r3 => ?_, (k.x at_.env).ext (e1.trans e2)⟩
  have rv := r1.mono (e2.trans e3)
  have ro := r2.mono e3
  have e := (e1.trans e2).trans e3
  dsimp only at h3
  split at h3
  · cases r3
    cases ro with | ref g =>
    obtain ⟨xs, g3, h3⟩ := mlst_inv h3
    obtain ⟨us, hu, q⟩ := s3.lst g g3
    unfold setK at h3
    split at h3
    · rename_i j hj
      obtain ⟨e', s'⟩ := s3.setLst g g3 (q.set rv j)
      exact ⟨_, us, _, j, rfl, rfl, hu, by rw [← q.length]; exact hj, k.nx _ _ _ _ _ h3 (e.trans e') ⟨(at_.env.mono e).mono e', s'⟩⟩
    · exact h3.elim
  · exact h3.elim

/-! ### while -/
theorem ds_while (hp : PassesOwn (model X.prog X.w) X.A X.env X.xe) (hc : PT X c (dT X.K W tc)) (hb : PSs X sa (dS X.K W t)) : PS X (.While c sa [] pos) (dS X.K W (sWhile tc t)) := by
  refine (ps_while hp hc hb).imp fun Z σ H ⟨ρ, μ, S, E, at_, ⟨n, h⟩, k⟩ => ?_
  refine ⟨fun m σ' H' => ∃ ρ' μ' S', Ext X.K H μ H' μ' ∧ At X.K σ' H' ρ' μ' S' ∧ whileN tc t E m ρ' S', ⟨n, ρ, μ, S, Ext.refl, at_, h⟩, ?_⟩
  rintro m σ1 H1 ⟨ρ1, μ1, S1, e1, at1, h1⟩
  cases m with
  | zero => exact h1.elim
  | succ m =>
    refine ⟨ρ1, μ1, S1, _, _, at1, h1, fun b S2 μ2 H2 h2 e2 s2 => ?_, (k.ext e1).x at1.env⟩
    cases b with
    | false => exact k.nx _ _ _ _ _ (ift_f h2) (e1.trans e2) ⟨at1.env.mono e2, s2⟩
    | true =>
      replace h2 := ift_t h2
      refine ⟨fun σ' H' => ∃ ρ' μ' S', Ext X.K H μ H' μ' ∧ At X.K σ' H' ρ' μ' S' ∧ whileN tc t E m ρ' S', fun σ' H' hh => ⟨m, Nat.lt_succ_self m, hh⟩, ?_⟩
      have k2 := k.ext (e1.trans e2)
      refine ⟨ρ1, μ2, S2, _, ⟨at1.env.mono e2, s2⟩, h2, fun ρ' S' σ' μ' H' hh e a' => ?_, fun d S' v μ' H' hh e a' r => k2.rt _ _ _ _ _ hh e a' r, fun ρ' S' σ' μ' H' hh e a' => k2.nx _ _ _ _ _ hh e a', fun ρ' S' σ' μ' H' hh e a' => ?_, fun x ρ' S' cl dx σ' μ' H' hh e a' r => k2.ex _ _ _ _ _ _ _ _ hh e a' r⟩
      · exact ⟨ρ', μ', S', (e1.trans e2).trans e, a', hh⟩
      · exact ⟨ρ', μ', S', (e1.trans e2).trans e, a', hh⟩
/-! ### targets -/
theorem dg_name {i : Nat} {x : Str} {vs : List Nat} (hN : X.N.Nodup) (hv : i ∈ vs) (hi : X.N[i]? = some x := by rfl) (hx : Loc X.env.scope x := by first | exact Or.inl rfl | exact Or.inr rfl)
    (hf : X.fn x = true ∨ X.env.scope.names.lookup x = some .local := by first | exact .inl rfl | exact .inr rfl | assumption) : PG X (.Name x pos) (dG X.K vs (gNm i)) :=
  ⟨fun pins s σ H v u Q I r ⟨ρ, μ, S, d, R, at_, rd, h, k⟩ => (pg_name hN hi hx hf).run pins s σ H v u Q I r (k _ _ _ _ _ h (wipe_set hv) Ext.refl ⟨at_.env.set rd i, at_.sim⟩)⟩
theorem dgs_nil {vs : List Nat} : PGs X [] (dGs X.K vs gsNil) :=
  ⟨fun pins s σ H us ws Q I r ⟨ρ, μ, S, ds, R, at_, rd, h, k⟩ => pgs_nil.run pins s σ H us ws Q I r (by
    unfold gsNil at h
    split at h
    · cases rd; exact ⟨rfl, k _ _ _ _ _ h rfl Ext.refl at_⟩
    · exact h.elim)⟩
theorem dgs_cons {vs : List Nat} {g : TDG} {gs : TDGs} (h1 : PG X a (dG X.K vs g)) (h2 : PGs X es (dGs X.K vs gs)) (hs : (assignEach (a :: es) X.env).map (·.2) = assign a X.env :: (assignEach es X.env).map (·.2) := by rfl) : PGs X (a :: es) (dGs X.K vs (gsCons g gs)) :=
  ⟨fun pins s σ H us ws Q I r ⟨ρ, μ, S, ds, R, at_, rd, h, k⟩ => (pgs_cons h1 h2 hs).run pins s σ H us ws Q I r (by
    unfold gsCons at h
    split at h
    · cases rd with | cons r1 r2 =>
      refine ⟨_, _, rfl, ρ, μ, S, _, _, at_, r1, h, fun ρ' S' σ' μ' H' hh w e a' => ?_⟩
      exact ⟨ρ', μ', S', _, _, a', r2.mono e, hh, fun ρ2 S2 σ2 μ2 H2 hh2 w2 e2 a2 => k _ _ _ _ _ hh2 (w2.trans w) (e.trans e2) a2⟩
    · exact h.elim)⟩
theorem dg_tup {vs : List Nat} {gs : TDGs} {kt n : Nat} (hc : X.calm = true) (h : PGs X es (dGs X.K vs gs)) (hn : (assignEach es X.env).length = n := by rfl) (hst : (assignEach es X.env).findIdx? (·.1) = none := by rfl) : PG X (.Tuple es kt pos) (dG X.K vs (gTp n gs)) :=
  ⟨fun pins s σ H v u Q I r ⟨ρ, μ, S, d, R, at_, rd, hh, k⟩ => (pg_tup hc h hn hst).run pins s σ H v u Q I r (by
    unfold gTp at hh
    split at hh
    · cases rd with | tup tt q =>
      exact ⟨_, _, rfl, tt, by rw [← q.length]; exact hh.1, ρ, μ, S, _, R, at_, q, hh.2, k⟩
    · exact hh.elim)⟩
theorem ds_asg {tg : Expr} {vs : List Nat} {g : TDG} (he : PE X a (dE X.K W te)) (hg : PG X tg (dG X.K vs g)) (hs : swapsWithSole [tg] a pos.line X.env = pure false := by rfl) (hw : swappedStores [tg] a X.env = pure none := by rfl) (h1 : (assignEach [tg] X.env).map (·.2) = [assign tg X.env] := by rfl) :
    PS X (.Assign [tg] a pos) (dS X.K W (sAsg te g)) := by
  refine (ps_asg he hg hs hw h1).imp fun Z σ H ⟨ρ, μ, S, E, at_, h, k⟩ => ?_
  refine ⟨ρ, μ, S, _, _, at_, h, fun d S' v μ' H' h' e s r => ?_, k.x at_.env⟩
  exact ⟨ρ, μ', S', d, _, ⟨at_.env.mono e, s⟩, r, h', fun ρ2 S2 σ2 μ2 H2 hh w e2 a2 => k.nx _ _ _ _ _ hh (e.trans e2) a2⟩

/-! ### for -/
theorem ds_for {tg iter : Expr} {it : TDI} {vs : List Nat} {g : TDG} (hp : PassesOwn (model X.prog X.w) X.A X.env X.xe) (hc : X.calm = true) (hi : PI X tg iter (dI X.K W it)) (hg : PG X tg (dG X.K vs g)) (hb : PSs X sa (dS X.K W t)) (hs : ∀ x, foldedSetIterable iter X.env x = pure x := by intro _; rfl) :
    PS X (.For tg iter sa [] pos) (dS X.K W (sFor it g t)) := by
  refine (ps_for hp hc hi hg hb hs).imp fun Z σ H ⟨ρ, μ, S, E, at_, h, k⟩ => ?_
  refine ⟨ρ, μ, S, _, _, at_, h, k.x at_.env, fun xs G S1 μ1 H1 J h1 e1 s1 hw => ?_⟩
  obtain ⟨Gv, Y, w, hG, hY⟩ := hw
  refine for_it w (fun i σ' H' => ∃ ρ' μ' S', Ext X.K H1 μ1 H' μ' ∧ At X.K σ' H' ρ' μ' S' ∧ forW G g t E (xs.drop i) ρ' S') ⟨ρ, μ1, S1, Ext.refl, ⟨at_.env.mono e1, s1⟩, by rw [List.drop_zero]; exact h1⟩ ?_ ?_ ?_
  · rintro i σ' H' hi ⟨ρ', μ', S', e', a', hf⟩
    refine hG H' μ' S' e' a'.sim ?_
    cases hd : xs.drop i with
    | nil => rw [hd] at hf; exact hf.1
    | cons x r => rw [hd] at hf; exact hf.1
  · rintro i v σ' H' H'' hi ⟨ρ', μ', S', e', a', hf⟩ hy
    have hd : xs[i]? = some xs[i] := List.getElem?_eq_getElem hi
    rw [List.drop_eq_getElem_cons hi] at hf
    obtain ⟨hGS, hf⟩ := hf
    obtain ⟨e2, s2, r2⟩ := hY i v H' H'' μ' S' xs[i] e' a'.sim hGS hd hy
    refine ⟨ρ', μ', S', _, _, ⟨a'.env.mono e2, s2⟩, r2, hf, fun ρ3 S3 σ3 μ3 H3 h3 _ e3 a3 => ?_⟩
    have k3 := k.ext (e1.trans (e'.trans (e2.trans e3)))
    refine ⟨ρ3, μ3, S3, _, a3, h3, fun ρ4 S4 σ4 μ4 H4 hh e4 a4 => ?_, fun d S4 v4 μ4 H4 hh e4 a4 r4 => k3.rt _ _ _ _ _ hh e4 a4 r4, fun ρ4 S4 σ4 μ4 H4 hh e4 a4 => k3.nx _ _ _ _ _ hh e4 a4, fun ρ4 S4 σ4 μ4 H4 hh e4 a4 => ?_, fun x ρ4 S4 cl dx σ4 μ4 H4 hh e4 a4 r4 => k3.ex _ _ _ _ _ _ _ _ hh e4 a4 r4⟩
    · exact ⟨ρ4, μ4, S4, (e'.trans (e2.trans e3)).trans e4, a4, hh⟩
    · exact ⟨ρ4, μ4, S4, (e'.trans (e2.trans e3)).trans e4, a4, hh⟩
  · rintro σ' H' ⟨ρ', μ', S', e', a', hf⟩
    rw [List.drop_length] at hf
    exact k.nx _ _ _ _ _ hf.2 (e1.trans e') a'
/-! ### comprehensions -/
theorem lc_step {it : TDI} {vs : List Nat} {g : TDG} {tt : TDT} {σ : L2.St} {H : Hp} {Q : VK} (h : dE X.K W (eLC it g tt te vs) σ H Q) (W0 : WX) : tLc (dI X.K W it) (dG X.K vs g) (dT X.K W0 tt) (dE X.K W0 te) vs σ H Q := by
  obtain ⟨ρ, μ, S, R, Rx, at_, h, ok, ox⟩ := h
  refine ⟨ρ, μ, S, _, Rx, at_, h, ox, fun xs G S1 μ1 H1 J h1 e1 s1 hw Dp hD => ?_⟩
  obtain ⟨Gv, Y, w, hG, hY⟩ := hw
  obtain ⟨e2, s2, r2⟩ := s1.newLst (xs := []) hD .nil
  have nX : ∀ (H' : Hp) (μ' : List Addr) σ', OkX X.K H' μ' noX (wAt W0 σ') := fun _ _ _ _ _ _ _ _ _ z => False.elim z
  refine lc_it w (fun i H' => ∃ μ' S', Ext X.K (upd H1 Dp (.lst [])) (μ1 ++ [Dp]) H' μ' ∧ Sim X.K H' μ' S' ∧ lcW S1.length G g tt te (wipeD ρ vs) (fun S2 => R (.ref S1.length) S2) (xs.drop i) S') ⟨_, _, Ext.refl, s2, by rw [List.drop_zero]; exact h1⟩ ?_ ?_ ?_
  · rintro i H' hi ⟨μ', S', e', a', hf⟩
    refine hG H' μ' S' (e2.trans e') a' ?_
    cases hd : xs.drop i with
    | nil => rw [hd] at hf; exact hf.1
    | cons x r => rw [hd] at hf; exact hf.1
  · rintro i v H' H'' hi ⟨μ', S', e', a', hf⟩ hy
    have hd : xs[i]? = some xs[i] := List.getElem?_eq_getElem hi
    rw [List.drop_eq_getElem_cons hi] at hf
    obtain ⟨hGS, hf⟩ := hf
    obtain ⟨e3, s3, r3⟩ := hY i v H' H'' μ' S' xs[i] (e2.trans e') a' hGS hd hy
    have env0 := ((at_.env.mono e1).mono (e2.trans (e'.trans e3))).wipe vs
    refine ⟨wipeD ρ vs, μ', S', _, _, ⟨env0, s3⟩, r3, hf, fun ρ4 S4 σ4 μ4 H4 h4 w4 e4 a4 => ?_⟩
    have hwipe : wipe σ4 vs = wipe σ vs := by
      rw [w4]
      have idem : ∀ (l : List Nat) (τ : L2.St), (∀ i ∈ l, i ∈ vs) → wipe (wipe τ l) vs = wipe τ vs := by
        intro l
        induction l with
        | nil => intro τ _; rfl
        | cons x l ih =>
          intro τ hl
          show wipe ((wipe τ l).set x none) vs = _
          rw [wipe_set (hl x (by simp))]
          exact ih τ fun i hi => hl i (by simp [hi])
      exact idem vs σ fun _ h => h
    refine ⟨hwipe, ρ4, μ4, S4, _, _, a4, h4, fun b S5 μ5 H5 h5 e5 s5 => ?_, nX _ _ _⟩
    have e05 := e'.trans (e3.trans (e4.trans e5))
    cases b with
    | false => exact ⟨μ5, S5, e05, s5, ift_f h5⟩
    | true =>
      replace h5 := ift_t h5
      refine ⟨ρ4, μ5, S5, _, _, ⟨a4.env.mono e5, s5⟩, h5, fun d S6 v6 μ6 H6 h6 e6 s6 r6 => ?_, nX _ _ _⟩
      obtain ⟨acc, g6, h6⟩ := mlst_inv h6
      have e06 := e05.trans e6
      have gD : μ6[S1.length]? = some Dp := by
        cases r2 with | ref gg => exact e06.mu _ _ gg
      obtain ⟨us, hu, q⟩ := s6.lst gD g6
      obtain ⟨e7, s7⟩ := s6.setLst gD g6 (q.append (.cons r6 .nil))
      exact ⟨us, hu, by rw [← q.length]; exact h6.1, μ6, _, e06.trans e7, s7, h6.2⟩
  · rintro H' ⟨μ', S', e', a', hf⟩
    rw [List.drop_length] at hf
    exact ok _ _ _ _ _ hf.2 (e1.trans (e2.trans e')) a' (r2.mono e')
theorem dts_nil : PTs X [] (dT X.K W tYesD) := ⟨fun pins s σ H Q I ⟨ρ, μ, S, R, Rx, at_, h, ok, ox⟩ => pts_nil.run pins s σ H Q I (ok _ _ _ _ h Ext.refl at_.sim)⟩
theorem dts_one (h : PT X c (dT X.K W tc)) : PTs X [c] (dT X.K W tc) := pts_one h
abbrev W0 : WX := fun _ _ _ _ => False
theorem de_lc {tg iter : Expr} {ifs : List Expr} {scope : Scope} {own : List (Str × Nat)} {it : TDI} {g : TDG} {tt : TDT} (hc : X.calm = true) (hN : X.N.Nodup) (ok : blkC X.N X.env.scope scope own = true) (hi : PI X tg iter (dI X.K W it))
    (hg : ∀ (s : Shared) (H : Hp) (C : Addr) (cl : List (Str × Addr)) (fp : List Addr), PG (X.blk s H scope (compEnvC scope cl C X.env) fp) tg (dG X.K (own.map (·.2)) g))
    (ht : ∀ (s : Shared) (H : Hp) (C : Addr) (cl : List (Str × Addr)) (fp : List Addr), PTs (X.blk s H scope (compEnvC scope cl C X.env) fp) ifs (dT X.K W0 tt))
    (he : ∀ (s : Shared) (H : Hp) (C : Addr) (cl : List (Str × Addr)) (fp : List Addr), PE (X.blk s H scope (compEnvC scope cl C X.env) fp) a (dE X.K W0 te)) (hs : ∀ x, foldedSetIterable iter X.env x = pure x := by intro _; rfl) :
    PE X (.ListComp a [⟨tg, iter, ifs, 0⟩] scope pos) (dE X.K W (eLC it g tt te (own.map (·.2)))) :=
  (pe_lc hc hN hi (blkOk_by ok) hg ht he hs).imp fun _ _ _ h => lc_step h W0
theorem ds_setLc {i : Nat} {y : Str} {py : Pos} {tg iter : Expr} {ifs : List Expr} {scope : Scope} {own : List (Str × Nat)} {it : TDI} {g : TDG} {tt : TDT} {lpos : Pos} (hc : X.calm = true) (hN : X.N.Nodup) (ok : blkC X.N X.env.scope scope own = true)
    (ha : (scope.names.any fun (n, k) => n == y && (k == .local || k == .cell)) = false) (hi : PI X tg iter (dI X.K W it))
    (hg : ∀ (s : Shared) (H : Hp) (C : Addr) (cl : List (Str × Addr)) (fp : List Addr), PG (X.blk s H scope (compEnvC scope cl C X.env) fp) tg (dG X.K (own.map (·.2)) g))
    (ht : ∀ (s : Shared) (H : Hp) (C : Addr) (cl : List (Str × Addr)) (fp : List Addr), PTs (X.blk s H scope (compEnvC scope cl C X.env) fp) ifs (dT X.K W0 tt))
    (he : ∀ (s : Shared) (H : Hp) (C : Addr) (cl : List (Str × Addr)) (fp : List Addr), PE (X.blk s H scope (compEnvC scope cl C X.env) fp) a (dE X.K W0 te))
    (hy : X.N[i]? = some y := by rfl) (hyl : X.env.scope.names.lookup y = some .local := by rfl) (hk : X.env.scope.kind = .function := by rfl) (hl : (py.line == lpos.line) = true := by rfl) (hs : ∀ x, foldedSetIterable iter X.env x = pure x := by intro _; rfl) :
    PS X (.Assign [.Name y py] (.ListComp a [⟨tg, iter, ifs, 0⟩] scope lpos) pos) (dS X.K W (sSet i (eLC it g tt te (own.map (·.2))))) := by
  refine (ps_setLc hc hN hy hyl (sw_true hk hyl hl ha) hi (blkOk_by ok) hg ht he hs).imp fun Z σ H ⟨ρ, μ, S, E, at_, h, k⟩ => ?_
  exact lc_step (W := W) ⟨ρ, μ, S, _, _, at_, h, fun d S' v μ' H' h' e s r => k.nx _ _ _ _ _ h' e ⟨(at_.env.mono e).set r i, s⟩, k.x at_.env⟩ W0
end
end DL
namespace DL
open PySem PySem.Spec PyProof.Rows L2

section
variable {X : Cx} {W : WX} {a b : Expr} {ta tb : TD} {pos : Pos} {tg : Expr}
/-! ### an iterator over a value -/
theorem it_lst {pins : List (Addr × Obj)} {σ : L2.St} {H : Hp} {s : Shared} {p : Addr} {xs : List V} {R : It → Hp → Prop} (I : Inv X pins σ H s) (h : SqL X.K H p xs) (q : R (Itl X.K p) H) : wpAny (model X.prog X.w) X.A (pyIter (.ref p)) (PIE X pins σ tg R) X.xe s := by
  obtain ⟨its, _, pl, _⟩ := I.list h
  refine wpAny_pyIter_list pl.isList ⟨s.heap.objs.size, [s.heap.objs.size], _, _, H, rfl, I.kept (t' := s.toks) fun _ _ e => Heap.get?_push_of_some _ e, turn_list p _, ⟨_, Heap.get?_push_size _ rfl, rfl, rfl⟩, fun c hc => ?_, q⟩
  obtain rfl : c = s.heap.objs.size := by simpa using hc
  exact I.fpOk (Nat.le_refl _) (I.hok.fresh (Nat.le_refl _))
theorem it_tup {pins : List (Addr × Obj)} {σ : L2.St} {H : Hp} {s : Shared} {p : Addr} {xs : List V} {R : It → Hp → Prop} (I : Inv X pins σ H s) (h : SqT X.K H p xs) (q : R (Itt X.K p) H) : wpAny (model X.prog X.w) X.A (pyIter (.ref p)) (PIE X pins σ tg R) X.xe s := by
  obtain ⟨its, _, pl, _⟩ := I.tuple h
  refine wpAny_pyIter_tuple (show s.heap.IsTuple p its.toArray from pl) ⟨s.heap.objs.size, [s.heap.objs.size], _, _, H, rfl, I.kept (t' := s.toks) fun _ _ e => Heap.get?_push_of_some _ e, turn_tuple p _, ⟨_, Heap.get?_push_size _ rfl, rfl, rfl⟩, fun c hc => ?_, q⟩
  obtain rfl : c = s.heap.objs.size := by simpa using hc
  exact I.fpOk (Nat.le_refl _) (I.hok.fresh (Nat.le_refl _))
def iSeqV (K : PySem.W.Frag) (tl : TE) : TI := fun σ H R => tl σ H fun x H1 => (∃ p xs, x = .ref p ∧ SqL K H1 p xs ∧ R (Itl K p) H1) ∨ (∃ p xs, x = .ref p ∧ SqT K H1 p xs ∧ R (Itt K p) H1) ∨ ∃ z, x = .str z ∧ R (Its z) H1
theorem pi_seqV {tl : TE} (hl : PE X a tl) : PI X tg a (iSeqV X.K tl) := by
  refine ⟨fun pins s σ H R I h => thn (hl.run pins s σ H _ I h) fun v s1 ⟨x, H1, I1, r1, q1⟩ => ?_⟩
  rcases q1 with ⟨p, xs, rfl, hq, q⟩ | ⟨p, xs, rfl, hq, q⟩ | ⟨z, rfl, q⟩
  · cases r1
    exact it_lst I1 hq q
  · cases r1
    exact it_tup I1 hq q
  · obtain ⟨t, rfl⟩ := r1
    cases hz : z.cps.all (· < 128) with
    | false => exact wpAny_pyIter_wide hz (pi_one (tk := s1.toks) I1 _ (turn_str _ z t "str_iterator" (.inr rfl)) ⟨_, Heap.get?_push_size _ rfl, rfl, rfl⟩ q)
    | true => exact wpAny_pyIter_ascii hz (pi_one (tk := s1.toks) I1 _ (turn_str _ z t "str_ascii_iterator" (.inl rfl)) ⟨_, Heap.get?_push_size _ rfl, rfl, rfl⟩ q)
theorem _root_.L2.PI.imp {X : Cx} {tg e : Expr} {t t' : TI} (h : PI X tg e t) (i : ∀ σ H R, t' σ H R → t σ H R) : PI X tg e t' := ⟨fun pins s σ H R I q => h.run pins s σ H R I (i σ H R q)⟩
theorem wd_lst {K : PySem.W.Frag} {H : Hp} {μ : List Addr} {n : Nat} {p : Addr} {xs : List D} (g : μ[n]? = some p) : WalkD K H μ (Itl K p) xs (fun S => S[n]? = some (.lst xs)) := by
  refine ⟨fun H' => ∃ vs, vs.length = xs.length ∧ SqL K H' p vs, fun i H' v H'' => H'' = H' ∧ ∀ vs, SqL K H' p vs → vs[i]? = some v, ⟨?_, ?_, ?_⟩, ?_, ?_⟩
  · rintro i H' hi ⟨vs, hl, hq⟩
    exact ⟨vs, vs[i]'(by omega), hq, List.getElem?_eq_getElem _⟩
  · rintro H' ⟨vs, hl, hq⟩
    exact ⟨vs, hq, by omega⟩
  · rintro i H' x H'' hi ⟨vs, hl, hq⟩ ⟨e, hy⟩
    exact ⟨e, hy⟩
  · intro H' μ' S e s hS
    obtain ⟨vs, hv, q⟩ := s.lst (e.mu _ _ g) hS
    exact ⟨vs, q.length.symm, SqL.of hv⟩
  · rintro i v H' H'' μ' S d e s hS hd ⟨rfl, hy⟩
    obtain ⟨vs, hv, q⟩ := s.lst (e.mu _ _ g) hS
    obtain ⟨u, hu, ru⟩ := q.get hd
    have := hy vs (SqL.of hv)
    rw [hu] at this; cases this
    exact ⟨Ext.refl, s, ru⟩
theorem wd_fix {K : PySem.W.Frag} {H : Hp} {μ : List Addr} {n : Nat} {p : Addr} {xs : List D} (g : μ[n]? = some p) : WalkD K H μ (Itl K p) xs (fun S => S[n]? = some (.fix xs)) := by
  refine ⟨fun H' => ∃ vs, vs.length = xs.length ∧ SqL K H' p vs, fun i H' v H'' => H'' = H' ∧ ∀ vs, SqL K H' p vs → vs[i]? = some v, ⟨?_, ?_, ?_⟩, ?_, ?_⟩
  · rintro i H' hi ⟨vs, hl, hq⟩
    exact ⟨vs, vs[i]'(by omega), hq, List.getElem?_eq_getElem _⟩
  · rintro H' ⟨vs, hl, hq⟩
    exact ⟨vs, hq, by omega⟩
  · rintro i H' x H'' hi ⟨vs, hl, hq⟩ ⟨e, hy⟩
    exact ⟨e, hy⟩
  · intro H' μ' S e s hS
    obtain ⟨vs, hv, q⟩ := s.fix (e.mu _ _ g) hS
    exact ⟨vs, q.length.symm, hv.sql⟩
  · rintro i v H' H'' μ' S d e s hS hd ⟨rfl, hy⟩
    obtain ⟨vs, hv, q⟩ := s.fix (e.mu _ _ g) hS
    obtain ⟨u, hu, ru⟩ := q.get hd
    have := hy vs hv.sql
    rw [hu] at this; cases this
    exact ⟨Ext.refl, s, ru⟩
theorem wd_tup {K : PySem.W.Frag} {H : Hp} {μ : List Addr} {p : Addr} {xs : List D} {vs : List V} (h : SqT K H p vs) (q : Reps K H μ xs vs) : WalkD K H μ (Itt K p) xs noG := by
  refine ⟨fun H' => SqT K H' p vs, YAt vs, ?_, fun H' μ' S e s _ => e.tup _ _ h, ?_⟩
  · rw [q.length]; exact walk_tup
  · rintro i v H' H'' μ' S d e s hS hd ⟨rfl, hy⟩
    obtain ⟨u, hu, ru⟩ := (q.mono e).get hd
    rw [hu] at hy; cases hy
    exact ⟨Ext.refl, s, ru⟩
theorem wd_str {K : PySem.W.Frag} {H : Hp} {μ : List Addr} {z : Str} : WalkD K H μ (Its z) (z.cps.toList.map fun c => .str ⟨#[c]⟩) noG := by
  refine ⟨fun _ => True, fun i H v H' => H' = H ∧ ∃ c, z.cps[i]? = some c ∧ v = .str ⟨#[c]⟩, ?_, fun _ _ _ _ _ _ => trivial, ?_⟩
  · rw [List.length_map, Array.length_toList]; exact walk_str
  · rintro i v H' H'' μ' S d e s hS hd ⟨rfl, c, hc, rfl⟩
    rw [List.getElem?_map, Array.getElem?_toList, hc] at hd
    cases hd
    exact ⟨Ext.refl, s, .str _⟩
theorem wd_range {K : PySem.W.Frag} {H : Hp} {μ : List Addr} {lo : Int} {n : Nat} : WalkD K H μ (Itr lo n) (rangeD lo n) noG := by
  refine ⟨fun _ => True, YFn fun i => .int (lo + i), ?_, fun _ _ _ _ _ _ => trivial, ?_⟩
  · rw [show (rangeD lo n).length = n by unfold rangeD; rw [List.length_map, List.length_range]]; exact walk_range
  · rintro i v H' H'' μ' S d e s hS hd ⟨rfl, rfl⟩
    unfold rangeD at hd
    rw [List.getElem?_map] at hd
    by_cases hi : i < n
    · rw [List.getElem?_range hi] at hd
      cases hd
      exact ⟨Ext.refl, s, .int _⟩
    · rw [List.getElem?_eq_none (by rw [List.length_range]; omega)] at hd
      cases hd
theorem di_seq (ha : PE X a (dE X.K W ta)) : PI X tg a (dI X.K W (iSeq ta)) := by
  refine (pi_seqV ha).imp fun σ H R ⟨ρ, μ, S, Rd, Rx, at_, h, ox, k⟩ => ?_
  refine ⟨ρ, μ, S, _, Rx, at_, h, fun d S' v μ' H' h' e s r => ?_, ox⟩
  dsimp only at h'
  split at h'
  · cases r with | tup t q =>
    exact .inr (.inl ⟨_, _, rfl, t, k _ _ _ _ _ _ h' e s (wd_tup t q)⟩)
  · cases r
    exact .inr (.inr ⟨_, rfl, k _ _ _ _ _ _ h' e s wd_str⟩)
  · cases r with | ref g =>
    obtain ⟨xs, h'⟩ := iter_inv h'
    rcases h' with ⟨g', h'⟩ | ⟨g', h'⟩
    · obtain ⟨vs, hv, q⟩ := s.lst g g'
      exact .inl ⟨_, _, rfl, SqL.of hv, k _ _ _ _ _ _ h' e s (wd_lst g)⟩
    · obtain ⟨vs, hv, q⟩ := s.fix g g'
      exact .inl ⟨_, _, rfl, hv.sql, k _ _ _ _ _ _ h' e s (wd_fix g)⟩
  · exact h'.elim
theorem di_range1 {p : Pos} (hm : X.mg "range" = none) (ha : PE X a (dE X.K W ta)) (hg : Gl X "range" := by rfl) (hs : starEach [a] X.env = [(false, eval a X.env)] := by rfl) : PI X tg (.Call (.Name "range" p) [a] [] pos) (dI X.K W (iRange1 ta)) := by
  refine (pi_range1 hg hm (pa_cons ha pa_nil hs) hs).imp fun σ H R ⟨ρ, μ, S, Rd, Rx, at_, h, ox, k⟩ => ?_
  refine ⟨ρ, μ, S, _, Rx, at_, h, fun d S' v μ' H' h' e s r => ?_, ox⟩
  dsimp only at h'
  split at h'
  · cases r
    exact ⟨_, rfl, h'.1.1, h'.1.2, k _ _ _ _ _ _ h'.2 e s wd_range⟩
  · exact h'.elim
theorem di_range2 {p : Pos} (hm : X.mg "range" = none) (ha : PE X a (dE X.K W ta)) (hb : PE X b (dE X.K W tb)) (hg : Gl X "range" := by rfl) (hs : starEach [a, b] X.env = [(false, eval a X.env), (false, eval b X.env)] := by rfl) (hs2 : starEach [b] X.env = [(false, eval b X.env)] := by rfl) :
    PI X tg (.Call (.Name "range" p) [a, b] [] pos) (dI X.K W (iRange2 ta tb)) := by
  refine (pi_range2 hg hm (pa_cons ha (pa_cons hb pa_nil hs2) (by rw [hs, hs2])) hs hs2).imp fun σ H R ⟨ρ, μ, S, Rd, Rx, at_, h, ox, k⟩ => ?_
  refine ⟨ρ, μ, S, _, Rx, at_, h, fun x S1 v μ1 H1 h1 e1 s1 r1 => ?_, ox⟩
  refine ⟨ρ, μ1, S1, _, Rx, ⟨at_.env.mono e1, s1⟩, h1, fun y S2 w μ2 H2 h2 e2 s2 r2 => ?_, ox.ext e1⟩
  dsimp only at h2
  split at h2
  · cases r1; cases r2
    exact ⟨_, _, rfl, h2.1, k _ _ _ _ _ _ h2.2 (e1.trans e2) s2 wd_range⟩
  · exact h2.elim
end

/-! ### a def by its body -/
def topEnds (R : RD) (Rx : RX) : DEnds := { nx := fun _ S => R .non S, rt := R, bk := fun _ _ => False, ct := fun _ _ => False, ex := fun x _ S => Rx x S }
/-- the promise of a def whose body reads t: m names, the parameters first -/
def wOf (m : Nat) (t : TDS) : DSp := fun ds S R Rx => t (topEnds R Rx) (ds.map some ++ List.replicate (m - ds.length) none) S
theorem dSp_len {K : PySem.W.Frag} {n : Nat} {sp : DSp} {vs : List V} {H : Hp} {Q : VK} {E : XK} (h : dSp K n sp vs H Q E) : vs.length = n := by
  obtain ⟨ds, μ, S, R, Rx, s, r, l, _⟩ := h
  rw [← r.length, l]
theorem start_rep {K : PySem.W.Frag} {H : Hp} {μ : List Addr} {ds : List D} {vs : List V} (r : Reps K H μ ds vs) (N : List Str) : RepE K H μ (ds.map some ++ List.replicate (N.length - ds.length) none) (L2.start N vs) := by
  unfold L2.start
  refine ⟨by simp [r.length], fun i d h => ?_⟩
  rw [List.getElem?_append] at h
  split at h
  · rename_i hl
    rw [List.length_map] at hl
    rw [List.getElem?_map] at h
    cases e : ds[i]? with
    | none => rw [e] at h; cases h
    | some d' =>
      rw [e] at h
      cases h
      obtain ⟨v, hv, rv⟩ := r.get e
      refine ⟨v, ?_, rv⟩
      rw [List.getElem?_append_left (by rw [List.length_map, ← r.length]; exact hl), List.getElem?_map, hv]
      rfl
  · rw [List.getElem?_replicate] at h
    split at h <;> cases h
section
variable {P : Program} {w : World} {K : PySem.W.Frag} {mg : Str → Option Value} {base : Heap}
theorem FunD.okD {x qual : Str} {params : Arguments} {body : List Stmt} {scope : Scope} {dvs : List V} {kws : List (Str × V)} {f : Addr} {fd : FuncData} {N ps : List Str} {k n m : Nat} {t : TDS} (F : FunD K x qual params body scope dvs kws f fd) (sc : FnScope N ps scope) (hn : ps.length = n) (hm : N.length = m)
    (hb : ∀ (cdv : Value) (A : Around) (outer : List Env) (s : Shared) (H : Hp) (E : XK), Room k (A.deeper (envOfC qual scope s.heap.objs.size f cdv)) →
      PSs (cxOf (L2.CX P w) P w K mg base N qual scope f cdv A outer s H E) body (dS K (fun cls d _ H' => E cls d H') t)) : FnOk P w K mg base (L2.CX P w) (k + 1) f fd ps (dSp K n (wOf m t)) := by
  refine F.ok sc (fun vs H Q E h => by rw [dSp_len h, hn]) fun cdv A outer s H vs Q E hr h => ⟨_, hb cdv A outer s H E hr, ?_⟩
  obtain ⟨ds, μ, S, R, Rx, sm, r, l, h, ok, ox⟩ := h
  subst hm
  refine ⟨_, μ, S, _, ⟨start_rep r N, sm⟩, h, ?_, ?_, fun _ _ _ _ _ z => False.elim z, fun _ _ _ _ _ z => False.elim z, ?_⟩
  · intro ρ' S' σ' μ' H' h' e a'
    exact ok _ _ _ _ _ h' e a'.sim .non
  · intro d S' v μ' H' h' e s' rv
    exact ok _ _ _ _ _ h' e s' rv
  · intro y ρ' S' cls dx σ' μ' H' h' e a' rx
    exact ox _ _ _ _ _ _ h' e a'.sim rx
end
/-- what the law's def is asked: it answers True to the script's ints -/
theorem law_start {K : PySem.W.Frag} {H : Hp} {a : Addr} {ns : List Int} {sp : DSp} (hO : Only H) (hS : SqL K H a (ns.map V.int)) (h : sp [.ref 0] [.fix (ns.map D.int)] (fun d _ => d = .bl true) noX) : dSp K 1 sp [.ref a] H (fun v _ => v = .bl true) fun _ _ _ => False := by
  have hF : FixL K H a (ns.map V.int) := by
    rcases hS with (hS | ⟨o, hS⟩) | hS
    · rcases hO a with z | ⟨o, xs, z⟩
      · rw [hS] at z; cases z
      · rw [hS] at z; cases z
    · exact .inl ⟨o, hS⟩
    · exact .inr hS
  refine ⟨[.ref 0], [a], [.fix (ns.map D.int)], _, _, ⟨rfl, ?_, ?_⟩, .cons (.ref rfl) .nil, rfl, h, ?_, fun _ _ _ _ _ _ z => False.elim z⟩
  · intro i j b h1 h2 f1 f2
    cases i with
    | zero => cases f1
    | succ i => simp at h1
  · intro i b o h1 h2
    cases i with
    | zero =>
      cases h1; cases h2
      exact ⟨_, hF, Reps.of_ints ns⟩
    | succ i => simp at h1
  · intro d S' v μ' H' hd e s r
    subst hd
    cases r
    rfl
end DL
namespace DL
open PySem PySem.Spec PyProof.Rows L2

/-! ### is True, is False -/
theorem is_bool_gen {M : Model} {A : Around} {E : Value → Shared → Prop} {s : Shared} {Q : Value → Shared → Prop} {v : Value} {k : Bool} (hv : ∀ p, v ≠ .builtin p) (h : Q (.bool (v == .bool k)) s) : wpAny M A (compareOp .Is v (.bool k)) Q E s := by
  cases v <;> first
    | exact wpAny_pure h
    | exact absurd rfl (hv _)
def isBD (k : Bool) : OU := fun x S R => match x with
  | .bl b => R (.bl (b == k)) S
  | _ => R (.bl false) S
section
variable {X : Cx} {W : WX} {a b c : Expr} {ta tb : TD} {pos : Pos} {es : List Expr} {tr tk : TDA} {n : Nat}
theorem op_isB (k : Bool) : OpR X (compareOp .Is) (fun x y H Q => y = .bl k ∧ (∀ b, x ≠ .byt b) ∧ (∀ b, x ≠ .flt b) ∧ Q (.bl (decide (x = .bl k))) H) := by
  intro pins s σ H x y v u Q I rx ry h
  obtain ⟨rfl, hb, hf, q⟩ := h
  cases ry
  have fin : ∀ z : Bool, z = decide (x = .bl k) → EP X pins σ Q (.bool z) s := fun z e => ⟨.bl z, H, I, rfl, by rw [e]; exact q⟩
  cases x with
  | non => cases rx; exact is_bool_gen (fun p z => by cases z) (fin _ (by simp))
  | bl i => cases rx; exact is_bool_gen (fun p z => by cases z) (fin _ (by rw [Bool.eq_iff_iff]; simp))
  | int i => obtain ⟨t, rfl⟩ := rx; exact is_bool_gen (fun p z => by cases z) (fin _ (by simp))
  | str i => obtain ⟨t, rfl⟩ := rx; exact is_bool_gen (fun p z => by cases z) (fin _ (by simp))
  | byt i => exact absurd rfl (hb i)
  | flt i => exact absurd rfl (hf i)
  | ref i => cases rx; exact is_bool_gen (fun p z => by cases z) (fin _ (by simp))
  | ty i => cases rx; exact is_bool_gen (fun p z => by cases z) (fin _ (by simp))
theorem isB_fin {K : PySem.W.Frag} {H : Hp} {μ : List Addr} {S : Sto} {d : D} {v : V} {k : Bool} {R : RD} (r : Rep K H μ d v) (h : isBD k d S R) : R (.bl (decide (v = .bl k))) S := by
  unfold isBD at h
  cases r with
  | bl b =>
    have e : (decide (V.bl b = V.bl k)) = (b == k) := by rw [Bool.eq_iff_iff]; simp
    rw [e]; exact h
  | _ => simpa using h
theorem rep_nobyt {K : PySem.W.Frag} {H : Hp} {μ : List Addr} {d : D} {v : V} (r : Rep K H μ d v) : (∀ b, v ≠ .byt b) ∧ ∀ b, v ≠ .flt b := by
  cases r <;> exact ⟨fun _ z => V.noConfusion z, fun _ z => V.noConfusion z⟩
theorem de_isB {k : Bool} {j pos'} (ha : PE X a (dE X.K W ta)) : PE X (.Compare a [.Is] [.Constant (.bool k) j pos'] pos) (dE X.K W (e1 (isBD k) ta)) := by
  refine (pe_cmpR (op_isB k) ha pe_bl (nomark _)).imp fun σ H Q ⟨ρ, μ, S, R, Rx, at_, h, ok, ox⟩ => ?_
  refine ⟨ρ, μ, S, _, Rx, at_, h, fun d S' v μ' H' h' e s r => ⟨rfl, (rep_nobyt r).1, (rep_nobyt r).2, ok _ _ _ _ _ (isB_fin r h') e s (.bl _)⟩, ox⟩
theorem dt_isB {k : Bool} {j pos'} (ha : PE X a (dE X.K W ta)) : PT X (.Compare a [.Is] [.Constant (.bool k) j pos'] pos) (dT X.K W (tTru (e1 (isBD k) ta))) := by
  refine (pt_cmpR (op_isB k) ha pe_bl (nomark _)).imp fun σ H Q ⟨ρ, μ, S, R, Rx, at_, h, ok, ox⟩ => ?_
  refine ⟨ρ, μ, S, _, Rx, at_, h, fun d S' v μ' H' h' e s r => ⟨rfl, (rep_nobyt r).1, (rep_nobyt r).2, _, rfl, ok _ _ _ _ (isB_fin r h') e s⟩, ox⟩

/-! ### defs by name -/
structure DefOk (P : Program) (w : World) (K : PySem.W.Frag) (mg : Str → Option Value) (base : Heap) (x : Str) (st : Stmt) (k : Nat) (ps : List Str) (n : Nat) (sp : DSp) : Prop where
  ex : ∃ fd, FnOk P w K mg base (L2.CX P w) k (He.ga K x) fd ps (dSp K n sp) ∧ FunD K x x (defArgs st) (defBody st) (defScope st) [] [] (He.ga K x) fd ∧ L2.Binds K fd ps []
  kp : PySem.W.keepIn K (.ref (He.ga K x)) = true
  gm : mg x = some (.ref (He.ga K x))
theorem de_fn {x : Str} {st : Stmt} {k : Nat} {ps : List Str} {sp : DSp} {p : Pos} (G : DefOk X.prog X.w X.K X.mg X.base x st k ps n sp) (hr : Room k X.A) (tk : Takes X W) (ha : PA X (a :: es) (dA X.K W n tr)) (hg : Gl X x := by rfl) (hdb : (x == ("__debug__" : Str)) = false := by decide)
    (he : starEach (a :: es) X.env = (false, eval a X.env) :: starEach es X.env := by rfl) (hpl : (backTo pos (starEach es X.env)).any (·.1) = false := by rfl) : PE X (.Call (.Name x p) (a :: es) [] pos) (dE X.K W (eCall sp tr)) := by
  obtain ⟨fd, F, _, hb⟩ := G.ex
  exact de_call F hr G.gm G.kp hb tk ha hg hdb he hpl
theorem de_fnK {x : Str} {st : Stmt} {k N : Nat} {ps ks : List Str} {π : List Nat} {sp : DSp} {p : Pos} {kws : List Keyword} (G : DefOk X.prog X.w X.K X.mg X.base x st k ps N sp) (hr : Room k X.A) (tks : Takes X W)
    (hb : ∀ (kV doc pm : Value) (an : Option Addr) (cdv ct : Value) (us ws : List Value), us.length = n → ws.length = ks.length → bindArgs (PySem.W.fnOf x x (defArgs st) (defBody st) (defScope st) .none kV doc pm an cdv ct) ⟨us, ks.zip ws⟩ = pure (ps.zip (pick π (us ++ ws))))
    (hN : π.length = N) (hπ : ∀ i ∈ π, i < n + ks.length) (ha : PA X (a :: es) (dA X.K W n tr)) (hkw : PK X kws (dA X.K W ks.length tk)) (hg : Gl X x := by rfl)
    (hall : (backToKw pos (keywordEach kws X.env)).all (·.1.isSome) = true := by rfl) (hks : (backToKw pos (keywordEach kws X.env)).filterMap (·.1) = ks := by rfl) (hdb : (x == ("__debug__" : Str)) = false := by decide)
    (he : starEach (a :: es) X.env = (false, eval a X.env) :: starEach es X.env := by rfl) (hpl : ((backTo pos (starEach (a :: es) X.env)).any (·.1) || (backToKw pos (keywordEach kws X.env)).any (·.1.isNone)) = false := by rfl) :
    PE X (.Call (.Name x p) (a :: es) kws pos) (dE X.K W (eCallK sp π tr tk)) := by
  obtain ⟨fd, F, D, _⟩ := G.ex
  exact de_callK F hr G.gm G.kp (kpi_of D hb) hN hπ tks ha hkw hg hall hks hdb he hpl
theorem de_fnK0 {x : Str} {st : Stmt} {k N : Nat} {ps ks : List Str} {π : List Nat} {sp : DSp} {p : Pos} {kws : List Keyword} (G : DefOk X.prog X.w X.K X.mg X.base x st k ps N sp) (hr : Room k X.A) (tks : Takes X W)
    (hb : ∀ (kV doc pm : Value) (an : Option Addr) (cdv ct : Value) (us ws : List Value), us.length = 0 → ws.length = ks.length → bindArgs (PySem.W.fnOf x x (defArgs st) (defBody st) (defScope st) .none kV doc pm an cdv ct) ⟨us, ks.zip ws⟩ = pure (ps.zip (pick π (us ++ ws))))
    (hN : π.length = N) (hπ : ∀ i ∈ π, i < ks.length) (hkw : PK X kws (dA X.K W ks.length tk)) (hg : Gl X x := by rfl)
    (hall : (backToKw pos (keywordEach kws X.env)).all (·.1.isSome) = true := by rfl) (hks : (backToKw pos (keywordEach kws X.env)).filterMap (·.1) = ks := by rfl) (hdb : (x == ("__debug__" : Str)) = false := by decide)
    (hpl : ((backTo pos (starEach [] X.env)).any (·.1) || (backToKw pos (keywordEach kws X.env)).any (·.1.isNone)) = false := by rfl) :
    PE X (.Call (.Name x p) [] kws pos) (dE X.K W (eCallK sp π aNil tk)) := by
  obtain ⟨fd, F, D, _⟩ := G.ex
  exact de_callK0 F hr G.gm G.kp (kpi_of D hb) hN hπ tks hkw hg hall hks hdb hpl
end

/-! ### what the top has written: defs, names, constants that are trees -/
/-- does the value u stand for the tree d in the written part -/
def conB (K : PySem.W.Frag) : Nat → D → Value → Bool
  | _, .non, .none => true
  | _, .bl b, .bool c => b == c
  | _, .int i, .int j _ => decide (i = j)
  | _, .str x, .str y _ => decide (x = y)
  | n + 1, .tup xs, .ref a => (match K.lookup a with
    | some ⟨.type c, _, .seq its _, _⟩ => decide (c = "tuple") && (decide (its.size ≤ sizeLine) && (decide (xs.length = its.toList.length) && (xs.zip its.toList).all fun p => conB K n p.1 p.2))
    | _ => false)
  | _, _, _ => false
theorem conB_ok {K : PySem.W.Frag} : ∀ (n : Nat) (d : D) (u : Value), conB K n d u = true → ∃ v, RelV v u ∧ ∀ H μ, Rep K H μ d v := by
  intro n
  induction n with
  | zero =>
    intro d u h
    cases d <;> cases u <;> simp only [conB] at h <;> first
      | (cases h; done)
      | exact ⟨.non, rfl, fun _ _ => .non⟩
      | (have e := eq_of_beq h; subst e; exact ⟨.bl _, rfl, fun _ _ => .bl _⟩)
      | (have e := of_decide_eq_true h; subst e; exact ⟨.int _, ⟨_, rfl⟩, fun _ _ => .int _⟩)
      | (have e := of_decide_eq_true h; subst e; exact ⟨.str _, ⟨_, rfl⟩, fun _ _ => .str _⟩)
  | succ n ih =>
    intro d u h
    cases d with
    | tup xs =>
      cases u with
      | ref a =>
        simp only [conB] at h
        split at h
        · rename_i c dd its m sl hk
          simp only [Bool.and_eq_true, decide_eq_true_eq] at h
          obtain ⟨hc, hz, hl, hall⟩ := h
          subst hc
          have go : ∀ (ds : List D) (us : List Value), ds.length = us.length → ((ds.zip us).all fun p => conB K n p.1 p.2) = true → ∃ vs, Vals vs us ∧ ∀ H μ, Reps K H μ ds vs := by
            intro ds
            induction ds with
            | nil =>
              intro us hl _
              cases us with
              | nil => exact ⟨[], .nil, fun _ _ => .nil⟩
              | cons => simp at hl
            | cons d ds ihd =>
              intro us hl hall
              cases us with
              | nil => simp at hl
              | cons u us =>
                simp only [List.zip_cons_cons, List.all_cons, Bool.and_eq_true] at hall
                obtain ⟨v, rv, hv⟩ := ih d u hall.1
                obtain ⟨vs, rvs, hvs⟩ := ihd us (by simpa using hl) hall.2
                exact ⟨v :: vs, .cons rv rvs, fun H μ => .cons (hv H μ) (hvs H μ)⟩
          obtain ⟨vs, rvs, hvs⟩ := go xs its.toList hl hall
          exact ⟨.ref a, rfl, fun H μ => .tup (.inr ⟨_, its, m, hk, rfl, rfl, hz, rvs⟩) (hvs H μ)⟩
        · cases h
      | _ => simp only [conB] at h; cases h
    | _ =>
      cases u <;> simp only [conB] at h <;> first
        | (cases h; done)
        | exact ⟨.non, rfl, fun _ _ => .non⟩
        | (have e := eq_of_beq h; subst e; exact ⟨.bl _, rfl, fun _ _ => .bl _⟩)
        | (have e := of_decide_eq_true h; subst e; exact ⟨.int _, ⟨_, rfl⟩, fun _ _ => .int _⟩)
        | (have e := of_decide_eq_true h; subst e; exact ⟨.str _, ⟨_, rfl⟩, fun _ _ => .str _⟩)
def conX (K : PySem.W.Frag) (p : Str × D) : Bool := match PySem.W.nsIn K mainGlobals p.1 with
  | some (some u) => conB K 8 p.2 u
  | _ => false
abbrev AlX : Type := Bool × He.AlD
def obsX (fa : List He.Fa) (fn : List He.DefD) (cs : List (Str × D)) (K : PySem.W.Frag) : AlX := (cs.all (conX K), He.obsD fa fn K)
def valX (fn : List He.DefD) : AlX := (true, He.valD fn)
def obsXG (n : Nat) (fa : List He.Fa) (fn : List He.DefD) (cs : List (Str × D)) (g : Addr → Option Obj) : AlX := obsX fa fn cs (He.frG g (He.asD g n))
def SaysX (fa : List He.Fa) (fn : List He.DefD) (cs : List (Str × D)) (K : PySem.W.Frag) : Prop := obsX fa fn cs K = valX fn
def hookX (n : Nat) (fa : List He.Fa) (fn : List He.DefD) (cs : List (Str × D)) : PySem.W.Hook where
  α := AlX
  obs := fun s => obsXG n fa fn cs s.heap.get?
  val := fun _ => valX fn
  says := fun _ h => ∃ K : PySem.W.Frag, K.In h ∧ SaysX fa fn cs K
  of := fun _ _ e => ⟨_, He.frG_in, e⟩
  keeps := fun _ _ _ ⟨K, hK, c⟩ k => ⟨K, PySem.W.Frag.In.keeps hK k, c⟩
theorem obsXG_eq {n : Nat} {fa : List He.Fa} {fn : List He.DefD} {cs : List (Str × D)} {g : Addr → Option Obj} {s : Shared} (h : ∀ a, g a = s.heap.get? a) : obsXG n fa fn cs g = (hookX n fa fn cs).obs s := by
  have e : g = s.heap.get? := funext h
  rw [e] <;> rfl
/-- the program's facts -/
structure Tx (fa : List He.Fa) (fn : List He.DefD) (cs : List (Str × D)) (K : PySem.W.Frag) (mg : Str → Option Value) : Prop where
  ex : ∃ h : Heap, K.In h ∧ h.Ns mainGlobals mg ∧ SaysX fa fn cs K
section
variable {fa : List He.Fa} {fn : List He.DefD} {cs : List (Str × D)} {K : PySem.W.Frag} {mg : Str → Option Value}
theorem SaysX.d (c : SaysX fa fn cs K) : He.SaysD fa fn K := congrArg (fun z : AlX => z.2) c
theorem Tx.glo (T : Tx fa fn cs K mg) (i : Nat) {x : Str} (h : fa[i]? = some (.glo x) := by rfl) : mg x = some (.ref (He.ga K x)) := let ⟨_, X, G, c⟩ := T.ex; He.glo_ok X G (c.d.fact i h)
theorem Tx.free (T : Tx fa fn cs K mg) (i : Nat) {x : Str} (h : fa[i]? = some (.free x) := by rfl) : mg x = none := let ⟨_, X, G, c⟩ := T.ex; He.free_ok X G (c.d.fact i h)
theorem Tx.con (T : Tx fa fn cs K mg) (i : Nat) {x : Str} {d : D} (h : cs[i]? = some (x, d) := by rfl) : ∃ v u, mg x = some u ∧ RelV v u ∧ ∀ H μ, Rep K H μ d v := by
  obtain ⟨_, X, G, c⟩ := T.ex
  have c1 : cs.all (conX K) = true := congrArg (fun z : AlX => z.1) c
  have c2 := List.all_eq_true.mp c1 _ (List.mem_of_getElem? h)
  unfold conX at c2
  split at c2
  · rename_i u hu
    obtain ⟨v, r, hr⟩ := conB_ok 8 d u c2
    exact ⟨v, u, PySem.W.mg_of X G hu, r, hr⟩
  · cases c2
/-- a def of the text by its body's reading -/
theorem Tx.defD {P : Program} {w : World} {base : Heap} (T : Tx fa fn cs K mg) {x : Str} {st : Stmt} {k n m : Nat} {N ps : List Str} {t : TDS} (gm : mg x = some (.ref (He.ga K x))) (i : Nat) (hi : fn[i]? = some ⟨(x, none), x, x, defArgs st, defBody st, defScope st, [], []⟩)
    (sc : FnScope N ps (defScope st)) (hn : ps.length = n) (hm : N.length = m)
    (hbind : ∀ (kV doc pm : Value) (an : Option Addr) (cdv ct : Value) (us : List Value), us.length = ps.length → bindArgs (PySem.W.fnOf x x (defArgs st) (defBody st) (defScope st) .none kV doc pm an cdv ct) ⟨us, []⟩ = pure (ps.zip us))
    (hb : ∀ (cdv : Value) (A : Around) (outer : List Env) (s : Shared) (H : Hp) (E : XK), Room k (A.deeper (envOfC x (defScope st) s.heap.objs.size (He.ga K x) cdv)) →
      PSs (cxOf (L2.CX P w) P w K mg base N x (defScope st) (He.ga K x) cdv A outer s H E) (defBody st) (dS K (fun cls d _ H' => E cls d H') t)) : DefOk P w K mg base x st (k + 1) ps n (wOf m t) := by
  obtain ⟨_, X, G, c⟩ := T.ex
  obtain ⟨fd, F⟩ := c.d.def_ i hi
  have F' : FunD K x x (defArgs st) (defBody st) (defScope st) [] [] (He.ga K x) fd := F
  exact ⟨⟨fd, FunD.okD F' sc hn hm hb, F', F'.bindsN hbind⟩, F'.kp, gm⟩
theorem Tx.lawD {P : Program} {w : World} {base : Heap} {x : Str} {st : Stmt} {k : Nat} {ps : List Str} {n : Nat} {sp : DSp} (G : DefOk P w K mg base x st k ps n sp) {fd : FuncData} (F : FunD K x x (defArgs st) (defBody st) (defScope st) [] [] (He.ga K x) fd) :
    FnOk P w K mg base (L2.CX P w) k (He.ga K x) fd ps (dSp K n sp) := by
  obtain ⟨fd', F', D', _⟩ := G.ex
  obtain ⟨_, _, _, _, _, _, _, _, _, _, _, l1, _⟩ := F.ex
  obtain ⟨_, _, _, _, _, _, _, _, _, _, _, l2, _⟩ := D'.ex
  rw [l1] at l2
  cases l2
  exact F'
end
section
variable {X : Cx} {W : WX} {pos : Pos}
theorem de_con {x : Str} {d : D} (h : ∃ v u, X.mg x = some u ∧ RelV v u ∧ ∀ H μ, Rep X.K H μ d v) (hg : Gl X x := by rfl) (hd : (x == ("__debug__" : Str)) = false := by decide) : PE X (.Name x pos) (dE X.K W (eC d)) := by
  obtain ⟨v, u, hm, r, hr⟩ := h
  exact de_glob hm r hr hg hd
end
section
variable {P : Program} {w : World} {K : PySem.W.Frag} {mg : Str → Option Value} {base : Heap} {N : List Str} {q : Str} {sc : Scope} {f : Addr} {cd : Value} {A : Around} {outer : List Env} {s : Shared} {H : Hp} {E : XK}
theorem tkF : Takes (cxOf (L2.CX P w) P w K mg base N q sc f cd A outer s H E) (fun cls d _ H' => E cls d H') := takes_of rfl rfl rfl rfl
theorem poF : PassesOwn (model P w) (cxOf (L2.CX P w) P w K mg base N q sc f cd A outer s H E).A (cxOf (L2.CX P w) P w K mg base N q sc f cd A outer s H E).env (cxOf (L2.CX P w) P w K mg base N q sc f cd A outer s H E).xe := passes_of rfl
end
/-- the law's end -/
theorem walk_D {l : PySem.W.OpenLaw} {n k : Nat} {q : Program} {loose : List Str} {XP : (Str → Option Value) → Heap → Prop} {YP : World → Heap → Prop} {d : DefRec} {x : Str} (hn : l.most = some n) (hn2 : n ≤ sizeLine) (hdf : d.params.defaults = []) (hr : Room k callerA)
    (F : ∀ (w : World) (mg : Str → Option Value) (fa : Addr) (h : Heap), YP w h → h.Ns mainGlobals mg → mg d.name = some (.ref fa) → ∃ (K : PySem.W.Frag) (fd : FuncData) (sp : Sp), K.In h ∧ (∀ (s : Shared) (u : Value), BindsTo s fd ⟨[u], []⟩ [(x, u)]) ∧
      (∀ (H : Hp) (a : Addr) (ns : List Int), ns.length ≤ n → Only H → SqL K H a (ns.map V.int) → sp [.ref a] H (fun v _ => v = .bl true) fun _ _ _ => False) ∧ ∀ base : Heap, K.In base → base.Ns mainGlobals mg → FnOk l.prog w K mg base (L2.CX l.prog w) k fa fd [x] sp) :
    PySem.W.WalkO q loose XP YP l.row.toRowW d [] (fun f vs => PySem.call f vs) := by
  refine Att.attach_call hn hdf fun w s₀ s₁ mg mb fa o pm cd doc a vs ns G Y _ _ _ hmg hobj hints hlen hg => ?_
  obtain ⟨K, fd, sp, KX, hb, hsp, hF⟩ := F w mg fa _ Y G.T.g hmg
  refine law_call KX G.T.g G.T.b G.T.builtins G.T.nolimit hg hobj hints (Nat.le_trans hlen hn2) hr hF hb (fun H hO hS => hsp H a ns hlen hO hS) fun H e s' z => ?_
  obtain ⟨_, _, _, _, _, _, _, _, _, _, _, _, z⟩ := z
  exact z.elim
end DL
namespace DL
open PySem PySem.Spec PyProof.Rows L2

/-! ### plain words: what a piece of a run leaves of the store -/
/-- all that stood ahead stands as it did, but at the places W -/
structure Frm (W : List Nat) (S S' : Sto) : Prop where
  len : S.length ≤ S'.length
  at_ : ∀ i, i < S.length → i ∉ W → S'[i]? = S[i]?
section
variable {W : List Nat} {S S' S'' : Sto} {i : Nat} {o : Ob}
theorem Frm.refl : Frm W S S := ⟨Nat.le_refl _, fun _ _ _ => rfl⟩
theorem Frm.trans (a : Frm W S S') (b : Frm W S' S'') : Frm W S S'' := ⟨Nat.le_trans a.len b.len, fun i h n => (b.at_ i (Nat.lt_of_lt_of_le h a.len) n).trans (a.at_ i h n)⟩
theorem Frm.mono {W' : List Nat} (a : Frm W S S') (h : ∀ i ∈ W, i ∈ W') : Frm W' S S' := ⟨a.len, fun i hl n => a.at_ i hl fun z => n (h i z)⟩
theorem Frm.nil (a : Frm [] S S') : Frm W S S' := a.mono fun _ h => by cases h
theorem Frm.app (T : Sto) : Frm W S (S ++ T) := ⟨by simp, fun i h _ => List.getElem?_append_left h⟩
theorem Frm.set (h : i ∈ W) : Frm W S (S.set i o) := ⟨by simp, fun j _ n => List.getElem?_set_ne (fun e : i = j => n (by rw [← e]; exact h))⟩
/-- a later object is written -/
theorem Frm.setNew (a : Frm W S S') (h : S.length ≤ i) : Frm W S (S'.set i o) := ⟨by simpa using a.len, fun j hj n => by rw [List.getElem?_set_ne (by omega)]; exact a.at_ j hj n⟩
theorem Frm.get (a : Frm W S S') (h : S[i]? = some o) (n : i ∉ W) : S'[i]? = some o := (a.at_ i (List.getElem?_eq_some_iff.mp h).1 n).trans h
theorem Frm.get0 (a : Frm [] S S') (h : S[i]? = some o) : S'[i]? = some o := a.get h (by simp)
theorem lt_of_get {α : Type} {l : List α} {i : Nat} {x : α} (h : l[i]? = some x) : i < l.length := (List.getElem?_eq_some_iff.mp h).1
theorem get_last {α : Type} {l : List α} {x : α} : (l ++ [x])[l.length]? = some x := by simp
end
theorem iteb {c : Bool} {A B : Prop} (h1 : c = true → A) (h2 : c = false → B) : if c = true then A else B := by
  cases c
  · exact h2 rfl
  · exact h1 rfl
theorem itet {c : Bool} {A B : Prop} (h : c = true) (a : A) : if c = true then A else B := by rw [if_pos h]; exact a
theorem itef {c : Bool} {A B : Prop} (h : c = false) (b : B) : if c = true then A else B := by rw [if_neg (by simp [h])]; exact b
theorem sz {n : Nat} (h : n ≤ 1000) : n ≤ sizeLine := Nat.le_of_lt (small1000 h)
theorem log2_lt {a : Int} {n k : Nat} (h : a.natAbs < 2 ^ n) (h0 : 0 < n) (hk : n ≤ k) : a.natAbs.log2 < k := Nat.lt_of_lt_of_le (PySem.Flt.log2_lt_of h0 h) hk
/-- a product's room -/
theorem room {a b : Int} {n m : Nat} (ha : a.natAbs < 2 ^ n) (hb : b.natAbs < 2 ^ m) (hn : 0 < n) (hm : 0 < m) (h : n + m ≤ 1000000) : a.natAbs.log2 + b.natAbs.log2 < 1000000 := by
  have h1 := PySem.Flt.log2_lt_of hn ha
  have h2 := PySem.Flt.log2_lt_of hm hb
  omega
/-- as many steps as one says, one less each turn -/
theorem gcd_step (a b : Int) : Int.gcd b (a % b) = Int.gcd a b := by
  have h : a = a % b + (a / b) * b := by
    have := Int.emod_add_mul_ediv a b
    rw [Int.mul_comm] at this
    exact this.symm
  have h2 := Int.gcd_add_mul_right_right b (a % b) (a / b)
  rw [← h] at h2
  rw [Int.gcd_comm a b, h2]
theorem pop_snoc {ys : List D} {z : D} {k : D → Prop} (h : k z) : popK (ys ++ [z]) k := by
  unfold popK
  have e : (ys ++ [z])[(ys ++ [z]).length - 1]? = some z := by simp
  rw [e]
  exact h
theorem snoc_of {α : Type} {l : List α} (h : l ≠ []) : ∃ r z, l = r ++ [z] := ⟨l.dropLast, l.getLast h, (List.dropLast_concat_getLast h).symm⟩
end DL
namespace DL
open PySem PySem.Spec PyProof.Rows L2

/-! ### plain values and their weight -/
mutual
def wt : D → Nat
  | .tup xs => wts xs + 1
  | _ => 1
def wts : List D → Nat
  | [] => 0
  | x :: r => wt x + wts r
end
mutual
def Pl : D → Prop
  | .tup xs => Pls xs
  | .ref _ => False
  | _ => True
def Pls : List D → Prop
  | [] => True
  | x :: r => Pl x ∧ Pls r
end
theorem wt_pos : ∀ d : D, 0 < wt d
  | .tup xs => by rw [wt]; omega
  | .non => by rw [wt]; omega; intro _ h; cases h
  | .bl _ => by rw [wt]; omega; intro _ h; cases h
  | .int _ => by rw [wt]; omega; intro _ h; cases h
  | .str _ => by rw [wt]; omega; intro _ h; cases h
  | .ref _ => by rw [wt]; omega; intro _ h; cases h
theorem pl_tup {xs : List D} : Pl (.tup xs) ↔ Pls xs := by rw [Pl]
theorem pl_ref {n : Nat} : ¬ Pl (.ref n) := by rw [Pl]; exact id
theorem pls_one {d : D} : Pls [d] ↔ Pl d := by rw [Pls, Pls]; simp
theorem pls_nil : Pls [] := by rw [Pls]; trivial
theorem pls_cons {d : D} {r : List D} : Pls (d :: r) ↔ Pl d ∧ Pls r := by rw [Pls]
theorem pl_int {i : Int} : Pl (.int i) := by rw [Pl]; trivial; all_goals (intro _ h; cases h)
theorem pl_bl {i : Bool} : Pl (.bl i) := by rw [Pl]; trivial; all_goals (intro _ h; cases h)
theorem pl_str {i : Str} : Pl (.str i) := by rw [Pl]; trivial; all_goals (intro _ h; cases h)
theorem pl_non : Pl .non := by rw [Pl]; trivial; all_goals (intro _ h; cases h)
theorem wt_one {d : D} : wts [d] = wt d := by rw [wts, wts]; rfl
theorem wts_app (a b : List D) : wts (a ++ b) = wts a + wts b := by
  induction a with
  | nil => simp [wts]
  | cons x r ih => simp only [List.cons_append, wts, ih]; omega
theorem wts_len (a : List D) : a.length ≤ wts a := by
  induction a with
  | nil => simp
  | cons x r ih =>
    have := wt_pos x
    simp only [List.length_cons, wts]
    omega
theorem pls_app {a b : List D} : Pls (a ++ b) ↔ Pls a ∧ Pls b := by
  induction a with
  | nil => simp [Pls]
  | cons x r ih => simp only [List.cons_append, Pls, ih, and_assoc]
theorem pls_take {a : List D} {n : Nat} (h : Pls a) : Pls (a.take n) := by
  induction a generalizing n with
  | nil => simp [Pls]
  | cons x r ih =>
    cases n with
    | zero => simp [Pls]
    | succ n => simp only [List.take_succ_cons, Pls]; exact ⟨h.1, ih h.2⟩
/-- a pair told alike twice -/
abbrev pr (d : D) : D := .tup [d, d]
/-- of what is told and what is due: both one plain value, not too wide -/
def Good (x : D) : Prop := ∃ d, x = pr d ∧ Pl d ∧ wt d ≤ 100000

/-! ### pure readings: nothing is written, lists may be made -/
def EvV (ρ : Ev) (t : TD) (d : D) : Prop := ∀ (S : Sto) (Rx : RX) (R : RD), (∀ S', Frm [] S S' → R d S') → t Rx ρ S R
def EvG (ρ : Ev) (t : TD) : Prop := ∀ (S : Sto) (Rx : RX) (R : RD), (∀ d S', Frm [] S S' → Good d → R d S') → t Rx ρ S R
def EvL (ρ : Ev) (n : Nat) (t : TDA) : Prop := ∀ (S : Sto) (Rx : RX) (R : List D → Sto → Prop), (∀ xs S', Frm [] S S' → (∀ x ∈ xs, Good x) → xs.length = n → R xs S') → t Rx ρ S R
section
variable {ρ : Ev} {n : Nat} {a b : TD} {r : TDA} {d : D}
theorem EvL.nil : EvL ρ 0 aNil := fun S Rx R k => k [] S .refl (by simp) rfl
theorem EvL.cons (h1 : EvG ρ a) (h2 : EvL ρ n r) : EvL ρ (n + 1) (aCons a r) := fun S Rx R k =>
  h1 S Rx _ fun d S1 f1 g => h2 S1 Rx _ fun xs S2 f2 g2 hl => k (d :: xs) S2 (f1.trans f2) (fun x hx => by
    rcases List.mem_cons.mp hx with rfl | hx
    · exact g
    · exact g2 x hx) (by simp [hl])
theorem EvV.pair (h1 : EvV ρ a d) (h2 : EvV ρ b d) (hp : Pl d) (hw : wt d ≤ 100000) : EvG ρ (eTup (aCons a (aCons b aNil))) := fun S Rx R k =>
  h1 S Rx _ fun S1 f1 => h2 S1 Rx _ fun S2 f2 => ⟨sz (show 2 ≤ 1000 by decide), k _ _ (f1.trans f2) ⟨d, rfl, hp, hw⟩⟩
theorem EvV.c : EvV ρ (eC d) d := fun S Rx R k => k S .refl
theorem EvV.bl {b' : Bool} (h1 : EvV ρ a (.bl b')) : EvG ρ (eTup (aCons a (aCons (eC (.bl b')) aNil))) := EvV.pair h1 .c pl_bl (by rw [wt]; decide; intro _ h; cases h)
end
theorem aCons_step {Rx : RX} {ρ : Ev} {S : Sto} {ta : TD} {tr : TDA} {R : List D → Sto → Prop} (h : ta Rx ρ S fun x S1 => tr Rx ρ S1 fun xs S2 => R (x :: xs) S2) : aCons ta tr Rx ρ S R := h
/-- the pairs told so far -/
structure Prs (W : List Nat) (p : Nat) (c : Nat) (S : Sto) : Prop where
  nW : p ∉ W
  ex : ∃ ps, S[p]? = some (.lst ps) ∧ (∀ x ∈ ps, Good x) ∧ ps.length ≤ c
theorem Prs.frm {W : List Nat} {p c : Nat} {S S' : Sto} (h : Prs W p c S) (f : Frm W S S') : Prs W p c S' := by
  obtain ⟨n, ps, h1, h2, h3⟩ := h
  exact ⟨n, ps, f.get h1 n, h2, h3⟩
theorem Prs.mono {W : List Nat} {p c c' : Nat} {S : Sto} (h : Prs W p c S) (l : c ≤ c') : Prs W p c' S := by
  obtain ⟨n, ps, h1, h2, h3⟩ := h
  exact ⟨n, ps, h1, h2, Nat.le_trans h3 l⟩
/-- pairs = pairs + [...] -/
theorem add_prs {W : List Nat} {p c n : Nat} {S : Sto} {ρ : Ev} {t : TDA} {Rx : RX} {R : RD} (hp : Prs W p c S) (hW : ∀ i ∈ W, i < S.length) (hv : ρ[2]? = some (some (.ref p))) (ht : EvL ρ n t) (hc : c + n ≤ 100000)
    (k : ∀ p' S', Frm [] S S' → Prs W p' (c + n) S' → S.length ≤ p' → R (.ref p') S') : e2 addD (eVar 2) (eLst t) Rx ρ S R := by
  obtain ⟨nW, ps, h1, h2, h3⟩ := hp
  show eVar 2 Rx ρ S fun x S1 => eLst t Rx ρ S1 fun y S2 => addD x y S2 R
  unfold eVar
  rw [hv]
  refine ht S Rx _ fun xs S1 f1 g hl => ?_
  have e1 : (S1 ++ [Ob.lst xs])[p]? = some (.lst ps) := (f1.trans (Frm.app _)).get0 h1
  have e2 : (S1 ++ [Ob.lst xs])[S1.length]? = some (.lst xs) := get_last
  have hs : 100000 < sizeLine := by decide
  refine ⟨by omega, mlst_at e1 (mlst_at e2 ⟨by omega, ?_⟩)⟩
  refine k _ _ (f1.trans ((Frm.app _).trans (Frm.app _))) ⟨fun h => ?_, ps ++ xs, get_last, fun x hx => ?_, by simp; omega⟩ ?_
  · have := hW _ h
    have := f1.len
    simp at *
    omega
  · rcases List.mem_append.mp hx with h | h
    · exact h2 x h
    · exact g x h
  · have := f1.len
    simp
    omega
end DL
namespace K00
open PySem PySem.Spec PyProof.Rows L2 DL
/-! ### the text by places, readings (printed by gen.py) -/
def topS (i : Nat) : Stmt := PySem.Challenge.pw_cheapathand_k00_prices_are_added_and_tol.main.body.getD i (.Pass ⟨0, 0, 0, 0⟩)
abbrev s_is_integer : Stmt := topS 1
def t_is_integer : TDS :=
  (sRet (eAnd (e1 (isiD 2) (eVar 0)) (eNot (e1 (isiD 1) (eVar 0)))))
@[irreducible] def w_is_integer : DSp := wOf 1 t_is_integer
theorem w_is_integer_eq : w_is_integer = wOf 1 t_is_integer := by unfold w_is_integer; rfl

abbrev s_is_tuple : Stmt := topS 2
def t_is_tuple : TDS :=
  (sRet (eAnd (e1 (isiD 4) (eVar 0)) (e2 eqD (eB lenD (aCons (eVar 0) aNil)) (eVar 1))))
@[irreducible] def w_is_tuple : DSp := wOf 2 t_is_tuple
theorem w_is_tuple_eq : w_is_tuple = wOf 2 t_is_tuple := by unfold w_is_tuple; rfl

abbrev s_common_divisor : Stmt := topS 4
def c1_common_divisor : TDT :=
  (tTru (e2 neD (eVar 1) (eC (.int 0))))
def b1_common_divisor : TDS :=
  (sPar 0 1 (aCons (eVar 1) (aCons (e2 modD (eVar 0) (eVar 1)) aNil)))
def t_common_divisor : TDS :=
  (sSeq (sPar 0 1 (aCons (eB absD (aCons (eVar 0) aNil)) (aCons (eB absD (aCons (eVar 1) aNil)) aNil)))
  (sSeq (sWhile c1_common_divisor b1_common_divisor)
  (sRet (eVar 0))))
@[irreducible] def w_common_divisor : DSp := wOf 2 t_common_divisor
theorem w_common_divisor_eq : w_common_divisor = wOf 2 t_common_divisor := by unfold w_common_divisor; rfl

abbrev s_ratio : Stmt := topS 5
def t_ratio : TDS :=
  (sSeq (sIf (tTru (e2 ltD (eVar 1) (eC (.int 0))))
  (sPar 0 1 (aCons (e1 negD (eVar 0)) (aCons (e1 negD (eVar 1)) aNil)))
  sNext)
  (sSeq (sSet 2 (eCall w_common_divisor (aCons (eVar 0) (aCons (eVar 1) aNil))))
  (sRet (eTup (aCons (e2 divD (eVar 0) (eVar 2)) (aCons (e2 divD (eVar 1) (eVar 2)) aNil))))))
@[irreducible] def w_ratio : DSp := wOf 3 t_ratio
theorem w_ratio_eq : w_ratio = wOf 3 t_ratio := by unfold w_ratio; rfl

abbrev s_is_fraction : Stmt := topS 6
def t_is_fraction : TDS :=
  (sSeq (sIf (tOrD (tNotD (tTru (eCall w_is_tuple (aCons (eVar 0) (aCons (eC (.int 2)) aNil))))) (tOrD (tNotD (tTru (eCall w_is_integer (aCons (e2 ixD (eVar 0) (eC (.int 0))) aNil)))) (tNotD (tTru (eCall w_is_integer (aCons (e2 ixD (eVar 0) (eC (.int 1))) aNil))))))
  (sRet (eC (.bl false)))
  sNext)
  (sRet (eAnd (e2 geD (e2 ixD (eVar 0) (eC (.int 1))) (eC (.int 1))) (e2 eqD (eCall w_common_divisor (aCons (e2 ixD (eVar 0) (eC (.int 0))) (aCons (e2 ixD (eVar 0) (eC (.int 1))) aNil))) (eC (.int 1))))))
@[irreducible] def w_is_fraction : DSp := wOf 1 t_is_fraction
theorem w_is_fraction_eq : w_is_fraction = wOf 1 t_is_fraction := by unfold w_is_fraction; rfl

abbrev s_ratio_plus : Stmt := topS 7
def t_ratio_plus : TDS :=
  (sRet (eCall w_ratio (aCons (e2 addD (e2 mulD (e2 ixD (eVar 0) (eC (.int 0))) (e2 ixD (eVar 1) (eC (.int 1)))) (e2 mulD (e2 ixD (eVar 1) (eC (.int 0))) (e2 ixD (eVar 0) (eC (.int 1))))) (aCons (e2 mulD (e2 ixD (eVar 0) (eC (.int 1))) (e2 ixD (eVar 1) (eC (.int 1)))) aNil))))
@[irreducible] def w_ratio_plus : DSp := wOf 2 t_ratio_plus
theorem w_ratio_plus_eq : w_ratio_plus = wOf 2 t_ratio_plus := by unfold w_ratio_plus; rfl

abbrev s_ratio_times : Stmt := topS 8
def t_ratio_times : TDS :=
  (sRet (eCall w_ratio (aCons (e2 mulD (e2 ixD (eVar 0) (eC (.int 0))) (e2 ixD (eVar 1) (eC (.int 0)))) (aCons (e2 mulD (e2 ixD (eVar 0) (eC (.int 1))) (e2 ixD (eVar 1) (eC (.int 1)))) aNil))))
@[irreducible] def w_ratio_times : DSp := wOf 2 t_ratio_times
theorem w_ratio_times_eq : w_ratio_times = wOf 2 t_ratio_times := by unfold w_ratio_times; rfl

abbrev s_is_above : Stmt := topS 9
def t_is_above : TDS :=
  (sRet (e2 gtD (e2 mulD (e2 ixD (eVar 0) (eC (.int 0))) (e2 ixD (eVar 1) (eC (.int 1)))) (e2 mulD (e2 ixD (eVar 1) (eC (.int 0))) (e2 ixD (eVar 0) (eC (.int 1))))))
@[irreducible] def w_is_above : DSp := wOf 2 t_is_above
theorem w_is_above_eq : w_is_above = wOf 2 t_is_above := by unfold w_is_above; rfl

abbrev s_is_price : Stmt := topS 11
def t_is_price : TDS :=
  (sRet (eAnd (eCall w_is_fraction (aCons (eVar 0) aNil)) (e2 geD (e2 ixD (eVar 0) (eC (.int 0))) (eC (.int 0)))))
@[irreducible] def w_is_price : DSp := wOf 1 t_is_price
theorem w_is_price_eq : w_is_price = wOf 1 t_is_price := by unfold w_is_price; rfl

abbrev s_price_plus : Stmt := topS 12
def t_price_plus : TDS :=
  (sRet (eCall w_ratio_plus (aCons (eVar 0) (aCons (eVar 1) aNil))))
@[irreducible] def w_price_plus : DSp := wOf 2 t_price_plus
theorem w_price_plus_eq : w_price_plus = wOf 2 t_price_plus := by unfold w_price_plus; rfl

abbrev s_price_times : Stmt := topS 13
def t_price_times : TDS :=
  (sRet (eCall w_ratio_times (aCons (eVar 0) (aCons (eVar 1) aNil))))
@[irreducible] def w_price_times : DSp := wOf 2 t_price_times
theorem w_price_times_eq : w_price_times = wOf 2 t_price_times := by unfold w_price_times; rfl

abbrev s_is_dearer : Stmt := topS 14
def t_is_dearer : TDS :=
  (sRet (eCall w_is_above (aCons (eVar 0) (aCons (eVar 1) aNil))))
@[irreducible] def w_is_dearer : DSp := wOf 2 t_is_dearer
theorem w_is_dearer_eq : w_is_dearer = wOf 2 t_is_dearer := by unfold w_is_dearer; rfl

abbrev s_price_text : Stmt := topS 15
def t_price_text : TDS :=
  (sRet (eIf (tTru (e2 eqD (e2 ixD (eVar 0) (eC (.int 1))) (eC (.int 1)))) (eB strD (aCons (e2 ixD (eVar 0) (eC (.int 0))) aNil)) (eJoined (jCons (eFmt (e2 ixD (eVar 0) (eC (.int 0)))) (jCons (eC (.str "/")) (jCons (eFmt (e2 ixD (eVar 0) (eC (.int 1)))) jNil))))))
@[irreducible] def w_price_text : DSp := wOf 1 t_price_text
theorem w_price_text_eq : w_price_text = wOf 1 t_price_text := by unfold w_price_text; rfl

abbrev s_law_deal : Stmt := topS 17
def v1_law_deal : TD :=
  (e2 modD (eB intD (aCons (eB absD (aCons (eB intD (aCons (eVar 5) aNil)) aNil)) aNil)) (eVar 2))
def f1_law_deal : TDS :=
  (sSet 4 (e2 modD (eB intD (aCons (e2 addD (e2 addD (e2 mulD (eVar 4) (eC (.int 69621))) (e2 modD (eB intD (aCons (eVar 5) aNil)) (eC (.int 2147483563)))) (eC (.int 23))) aNil)) (eC (.int 2147483647))))
def q1_law_deal : TDT :=
  (tTru (e2 geD (eVar 5) (e2 powD (eC (.int 10)) (eC (.int 18)))))
def v2_law_deal : TD :=
  (eVar 5)
def t_law_deal : TDS :=
  (sSeq (sSet 2 (e2 mulD (e2 mulD (e2 mulD (e2 mulD (e2 mulD (e2 powD (eC (.int 10)) (eC (.int 64))) (e2 powD (eC (.int 10)) (eC (.int 64)))) (e2 powD (eC (.int 10)) (eC (.int 64)))) (e2 powD (eC (.int 10)) (eC (.int 64)))) (e2 powD (eC (.int 10)) (eC (.int 64)))) (e2 powD (eC (.int 10)) (eC (.int 64)))))
  (sSeq (sSet 3 (eLC (iSeq (eSlice (eVar 0) oNone (oSome (eC (.int 63))))) (gNm 5) tYesD v1_law_deal [5]))
  (sSeq (sSet 4 (e2 addD (eC (.int 70001)) (e2 mulD (eC (.int 7919)) (eVar 1))))
  (sSeq (sFor (iSeq (eVar 3)) (gNm 5) f1_law_deal)
  (sRet (eLst (aCons (eRev (eLC (iSeq (eVar 3)) (gNm 5) q1_law_deal v2_law_deal [5])) (aCons (eVar 4) aNil))))))))
@[irreducible] def w_law_deal : DSp := wOf 6 t_law_deal
theorem w_law_deal_eq : w_law_deal = wOf 6 t_law_deal := by unfold w_law_deal; rfl

abbrev s_law_any : Stmt := topS 18
def c1_law_any : TDT :=
  (tAndD (tTru (e2 gtD (eB lenD (aCons (e2 ixD (eVar 0) (eC (.int 0))) aNil)) (eC (.int 0)))) (tTru (e2 eqD (e2 ixD (e2 ixD (eVar 0) (eC (.int 0))) (e1 negD (eC (.int 1)))) (eC (.int 0)))))
def b1_law_any : TDS :=
  (sExpr (ePop (e2 ixD (eVar 0) (eC (.int 0)))))
def t_law_any : TDS :=
  (sSeq (sWhile c1_law_any b1_law_any)
  (sSeq (sIf (tTru (e2 gtD (eB lenD (aCons (e2 ixD (eVar 0) (eC (.int 0))) aNil)) (eC (.int 0))))
  (sSeq (sSet 2 (eB intD (aCons (ePop (e2 ixD (eVar 0) (eC (.int 0)))) aNil)))
  (sSeq (sExpr (eAppend (e2 ixD (eVar 0) (eC (.int 0))) (e2 divD (eVar 2) (eVar 1))))
  (sRet (e2 modD (eVar 2) (eVar 1)))))
  sNext)
  (sSeq (sSetIx (eVar 0) (eC (.int 1)) (e2 modD (eB intD (aCons (e2 addD (e2 mulD (e2 ixD (eVar 0) (eC (.int 1))) (eC (.int 48271))) (eC (.int 31))) aNil)) (eC (.int 2147483647))))
  (sRet (e2 modD (eB intD (aCons (e2 divD (e2 ixD (eVar 0) (eC (.int 1))) (eC (.int 64))) aNil)) (eVar 1))))))
@[irreducible] def w_law_any : DSp := wOf 3 t_law_any
theorem w_law_any_eq : w_law_any = wOf 3 t_law_any := by unfold w_law_any; rfl

abbrev s_law_of : Stmt := topS 19
def t_law_of : TDS :=
  (sRet (e2 ixD (eVar 1) (eCall w_law_any (aCons (eVar 0) (aCons (eB lenD (aCons (eVar 1) aNil)) aNil)))))
@[irreducible] def w_law_of : DSp := wOf 2 t_law_of
theorem w_law_of_eq : w_law_of = wOf 2 t_law_of := by unfold w_law_of; rfl

abbrev s_law_is_kind : Stmt := topS 20
def t_law_is_kind : TDS :=
  (sSeq (sIf (tTru (e1 isND (eVar 1)))
  (sRet (e1 isND (eVar 0)))
  sNext)
  (sSeq (sIf (tOrD (tTru (e1 (isBD true) (eVar 1))) (tTru (e1 (isBD false) (eVar 1))))
  (sRet (eIf (tTru (eVar 1)) (e1 (isBD true) (eVar 0)) (e1 (isBD false) (eVar 0))))
  sNext)
  (sSeq (sIf (tTru (e1 (isiD 3) (eVar 1)))
  (sRet (eAnd (e1 (isiD 3) (eVar 0)) (e2 eqD (eVar 0) (eVar 1))))
  sNext)
  (sRet (eAnd (e1 (isiD 2) (eVar 0)) (eAnd (eNot (e1 (isiD 1) (eVar 0))) (e2 eqD (eVar 0) (eVar 1))))))))
@[irreducible] def w_law_is_kind : DSp := wOf 2 t_law_is_kind
theorem w_law_is_kind_eq : w_law_is_kind = wOf 2 t_law_is_kind := by unfold w_law_is_kind; rfl

abbrev s_law_same : Stmt := topS 21
def f1_law_same : TDS :=
  (sExpr (eAppend (eVar 2) (eTup (aCons (e2 ixD (eVar 3) (eVar 5)) (aCons (e2 ixD (eVar 4) (eVar 5)) aNil)))))
def c1_law_same : TDT :=
  (tTru (e2 gtD (eB lenD (aCons (eVar 2) aNil)) (eC (.int 0))))
def b1_law_same : TDS :=
  (sSeq (sAsg (ePop (eVar 2)) (gTp 2 (gsCons (gNm 3) (gsCons (gNm 4) gsNil))))
  (sIf (tTru (e1 (isiD 4) (eVar 4)))
  (sSeq (sIf (tOrD (tNotD (tTru (e1 (isiD 4) (eVar 3)))) (tTru (e2 neD (eB lenD (aCons (eVar 3) aNil)) (eB lenD (aCons (eVar 4) aNil)))))
  (sRet (eC (.bl false)))
  sNext)
  (sFor (iRange1 (eB lenD (aCons (eVar 4) aNil))) (gNm 5) f1_law_same))
  (sIf (tOrD (tTru (e1 (isi3D 4 5 6) (eVar 3))) (tNotD (tTru (eCall w_law_is_kind (aCons (eVar 3) (aCons (eVar 4) aNil))))))
  (sRet (eC (.bl false)))
  sNext)))
def t_law_same : TDS :=
  (sSeq (sSet 2 (eLst (aCons (eTup (aCons (eVar 0) (aCons (eVar 1) aNil))) aNil)))
  (sSeq (sWhile c1_law_same b1_law_same)
  (sRet (eC (.bl true)))))
@[irreducible] def w_law_same : DSp := wOf 6 t_law_same
theorem w_law_same_eq : w_law_same = wOf 6 t_law_same := by unfold w_law_same; rfl

abbrev s_law_all : Stmt := topS 22
def q1_law_all : TDT :=
  (tNotD (tTru (eCall w_law_same (aCons (eVar 1) (aCons (eVar 2) aNil)))))
def v1_law_all : TD :=
  (eVar 1)
def t_law_all : TDS :=
  (sRet (e2 eqD (eB lenD (aCons (eLC (iSeq (eVar 0)) (gTp 2 (gsCons (gNm 1) (gsCons (gNm 2) gsNil))) q1_law_all v1_law_all [1, 2]) aNil)) (eC (.int 0))))
@[irreducible] def w_law_all : DSp := wOf 3 t_law_all
theorem w_law_all_eq : w_law_all = wOf 3 t_law_all := by unfold w_law_all; rfl

abbrev s_law_divisor : Stmt := topS 23
def c1_law_divisor : TDT :=
  (tTru (e2 neD (eVar 1) (eC (.int 0))))
def b1_law_divisor : TDS :=
  (sPar 0 1 (aCons (eVar 1) (aCons (e2 modD (eB intD (aCons (eVar 0) aNil)) (eVar 1)) aNil)))
def t_law_divisor : TDS :=
  (sSeq (sWhile c1_law_divisor b1_law_divisor)
  (sRet (eVar 0)))
@[irreducible] def w_law_divisor : DSp := wOf 2 t_law_divisor
theorem w_law_divisor_eq : w_law_divisor = wOf 2 t_law_divisor := by unfold w_law_divisor; rfl

abbrev s_law_ratio : Stmt := topS 24
def t_law_ratio : TDS :=
  (sSeq (sIf (tTru (e2 ltD (eVar 1) (eC (.int 0))))
  (sPar 0 1 (aCons (e2 subD (eC (.int 0)) (eVar 0)) (aCons (e2 subD (eC (.int 0)) (eVar 1)) aNil)))
  sNext)
  (sSeq (sSet 2 (eCall w_law_divisor (aCons (eB absD (aCons (eVar 0) aNil)) (aCons (eVar 1) aNil))))
  (sRet (eTup (aCons (eB intD (aCons (e2 divD (eVar 0) (eVar 2)) aNil)) (aCons (eB intD (aCons (e2 divD (eVar 1) (eVar 2)) aNil)) aNil))))))
@[irreducible] def w_law_ratio : DSp := wOf 3 t_law_ratio
theorem w_law_ratio_eq : w_law_ratio = wOf 3 t_law_ratio := by unfold w_law_ratio; rfl

abbrev s_law_plus : Stmt := topS 25
def t_law_plus : TDS :=
  (sRet (eCall w_law_ratio (aCons (e2 addD (e2 mulD (e2 ixD (eVar 0) (eC (.int 0))) (e2 ixD (eVar 1) (eC (.int 1)))) (e2 mulD (e2 ixD (eVar 1) (eC (.int 0))) (e2 ixD (eVar 0) (eC (.int 1))))) (aCons (e2 mulD (e2 ixD (eVar 0) (eC (.int 1))) (e2 ixD (eVar 1) (eC (.int 1)))) aNil))))
@[irreducible] def w_law_plus : DSp := wOf 2 t_law_plus
theorem w_law_plus_eq : w_law_plus = wOf 2 t_law_plus := by unfold w_law_plus; rfl

abbrev s_law_times : Stmt := topS 26
def t_law_times : TDS :=
  (sRet (eCall w_law_ratio (aCons (e2 mulD (e2 ixD (eVar 0) (eC (.int 0))) (e2 ixD (eVar 1) (eC (.int 0)))) (aCons (e2 mulD (e2 ixD (eVar 0) (eC (.int 1))) (e2 ixD (eVar 1) (eC (.int 1)))) aNil))))
@[irreducible] def w_law_times : DSp := wOf 2 t_law_times
theorem w_law_times_eq : w_law_times = wOf 2 t_law_times := by unfold w_law_times; rfl

abbrev s_law_below : Stmt := topS 27
def t_law_below : TDS :=
  (sRet (e2 ltD (e2 mulD (e2 ixD (eVar 0) (eC (.int 0))) (e2 ixD (eVar 1) (eC (.int 1)))) (e2 mulD (e2 ixD (eVar 1) (eC (.int 0))) (e2 ixD (eVar 0) (eC (.int 1))))))
@[irreducible] def w_law_below : DSp := wOf 2 t_law_below
theorem w_law_below_eq : w_law_below = wOf 2 t_law_below := by unfold w_law_below; rfl

abbrev s_law_price : Stmt := topS 28
def t_law_price : TDS :=
  (sRet (eCall w_law_of (aCons (eVar 0) (aCons (eLst (aCons (eTup (aCons (eC (.int 0)) (aCons (eC (.int 1)) aNil))) (aCons (eTup (aCons (eC (.int 1)) (aCons (eC (.int 1)) aNil))) (aCons (eTup (aCons (eC (.int 2)) (aCons (eC (.int 1)) aNil))) (aCons (eTup (aCons (eC (.int 3)) (aCons (eC (.int 1)) aNil))) (aCons (eTup (aCons (eC (.int 5)) (aCons (eC (.int 1)) aNil))) (aCons (eTup (aCons (eC (.int 1)) (aCons (eC (.int 2)) aNil))) (aCons (eTup (aCons (eC (.int 3)) (aCons (eC (.int 2)) aNil))) (aCons (eTup (aCons (eC (.int 2)) (aCons (eC (.int 3)) aNil))) (aCons (eTup (aCons (eC (.int 7)) (aCons (eC (.int 4)) aNil))) (aCons (eTup (aCons (eC (.int 11)) (aCons (eC (.int 12)) aNil))) (aCons (eTup (aCons (eC (.int 40)) (aCons (eC (.int 1)) aNil))) aNil)))))))))))) aNil))))
@[irreducible] def w_law_price : DSp := wOf 1 t_law_price
theorem w_law_price_eq : w_law_price = wOf 1 t_law_price := by unfold w_law_price; rfl

abbrev s_law_price_text : Stmt := topS 29
def t_law_price_text : TDS :=
  (sRet (eIf (tTru (e2 eqD (e2 ixD (eVar 0) (eC (.int 1))) (eC (.int 1)))) (eB strD (aCons (e2 ixD (eVar 0) (eC (.int 0))) aNil)) (e2 addD (e2 addD (eB strD (aCons (e2 ixD (eVar 0) (eC (.int 0))) aNil)) (eC (.str "/"))) (eB strD (aCons (e2 ixD (eVar 0) (eC (.int 1))) aNil)))))
@[irreducible] def w_law_price_text : DSp := wOf 1 t_law_price_text
theorem w_law_price_text_eq : w_law_price_text = wOf 1 t_law_price_text := by unfold w_law_price_text; rfl

abbrev s_law_any_price : Stmt := topS 30
def t_law_any_price : TDS :=
  (sRet (eCall w_law_of (aCons (eVar 0) (aCons (eLst (aCons (eCall w_law_price (aCons (eVar 0) aNil)) (aCons (eCall w_law_ratio (aCons (eCall w_law_any (aCons (eVar 0) (aCons (eC (.int 1000)) aNil))) (aCons (e2 addD (eC (.int 1)) (eCall w_law_any (aCons (eVar 0) (aCons (eC (.int 12)) aNil)))) aNil))) aNil))) aNil))))
@[irreducible] def w_law_any_price : DSp := wOf 1 t_law_any_price
theorem w_law_any_price_eq : w_law_any_price = wOf 1 t_law_any_price := by unfold w_law_any_price; rfl

abbrev s_law : Stmt := topS 31
def f1_law : TDS :=
  (sSeq (sPar3 5 6 7 (aCons (eCall w_law_any_price (aCons (eVar 1) aNil)) (aCons (eCall w_law_any_price (aCons (eVar 1) aNil)) (aCons (eCall w_law_any_price (aCons (eVar 1) aNil)) aNil))))
  (sSeq (sSet 2 (e2 addD (eVar 2) (eLst (aCons (eTup (aCons (eCall w_price_plus (aCons (eVar 5) (aCons (eVar 6) aNil))) (aCons (eCall w_law_plus (aCons (eVar 5) (aCons (eVar 6) aNil))) aNil))) (aCons (eTup (aCons (eCallK w_price_plus [1, 0] aNil (aCons (eVar 6) (aCons (eVar 5) aNil))) (aCons (eCall w_law_plus (aCons (eVar 5) (aCons (eVar 6) aNil))) aNil))) aNil)))))
  (sSeq (sSet 2 (e2 addD (eVar 2) (eLst (aCons (eTup (aCons (eCall w_price_times (aCons (eVar 7) (aCons (eVar 5) aNil))) (aCons (eCall w_law_times (aCons (eVar 7) (aCons (eVar 5) aNil))) aNil))) (aCons (eTup (aCons (eCallK w_price_times [1, 0] aNil (aCons (eVar 5) (aCons (eVar 7) aNil))) (aCons (eCall w_law_times (aCons (eVar 7) (aCons (eVar 5) aNil))) aNil))) aNil)))))
  (sSeq (sSet 2 (e2 addD (eVar 2) (eLst (aCons (eTup (aCons (eCall w_is_dearer (aCons (eVar 5) (aCons (eVar 6) aNil))) (aCons (eCall w_law_below (aCons (eVar 6) (aCons (eVar 5) aNil))) aNil))) (aCons (eTup (aCons (eCallK w_is_dearer [1, 0] aNil (aCons (eVar 5) (aCons (eVar 6) aNil))) (aCons (eCall w_law_below (aCons (eVar 5) (aCons (eVar 6) aNil))) aNil))) aNil)))))
  (sSeq (sSet 2 (e2 addD (eVar 2) (eLst (aCons (eTup (aCons (eCall w_is_dearer (aCons (eVar 5) (aCons (eVar 5) aNil))) (aCons (eC (.bl false)) aNil))) (aCons (eTup (aCons (eCall w_price_text (aCons (eVar 5) aNil)) (aCons (eCall w_law_price_text (aCons (eVar 5) aNil)) aNil))) (aCons (eTup (aCons (eCallK w_price_text [0] aNil (aCons (eVar 6) aNil)) (aCons (eCall w_law_price_text (aCons (eVar 6) aNil)) aNil))) aNil))))))
  (sSeq (sSet 2 (e2 addD (eVar 2) (eLst (aCons (eTup (aCons (eCall w_is_price (aCons (eVar 5) aNil)) (aCons (eC (.bl true)) aNil))) (aCons (eTup (aCons (eCallK w_is_price [0] aNil (aCons (eVar 6) aNil)) (aCons (eC (.bl true)) aNil))) (aCons (eTup (aCons (eCall w_is_price (aCons (eB listD (aCons (eVar 5) aNil)) aNil)) (aCons (eC (.bl false)) aNil))) (aCons (eTup (aCons (eCall w_is_price (aCons (e2 addD (eVar 5) (eTup (aCons (eC (.int 1)) aNil))) aNil)) (aCons (eC (.bl false)) aNil))) aNil)))))))
  (sSeq (sSet 2 (e2 addD (eVar 2) (eLst (aCons (eTup (aCons (eCall w_is_price (aCons (eTup (aCons (e2 mulD (e2 ixD (eVar 5) (eC (.int 0))) (eC (.int 2))) (aCons (e2 mulD (e2 ixD (eVar 5) (eC (.int 1))) (eC (.int 2))) aNil))) aNil)) (aCons (eC (.bl false)) aNil))) (aCons (eTup (aCons (eCall w_is_price (aCons (eTup (aCons (e2 subD (e2 subD (eC (.int 0)) (e2 ixD (eVar 5) (eC (.int 0)))) (eC (.int 1))) (aCons (eC (.int 1)) aNil))) aNil)) (aCons (eC (.bl false)) aNil))) aNil)))))
  (sSet 2 (e2 addD (eVar 2) (eLst (aCons (eTup (aCons (eCall w_is_price (aCons (eTup (aCons (e2 ixD (eVar 5) (eC (.int 0))) (aCons (e2 subD (eC (.int 0)) (e2 ixD (eVar 5) (eC (.int 1)))) aNil))) aNil)) (aCons (eC (.bl false)) aNil))) (aCons (eTup (aCons (eCall w_is_price (aCons (eTup (aCons (eB strD (aCons (e2 ixD (eVar 5) (eC (.int 0))) aNil)) (aCons (e2 ixD (eVar 5) (eC (.int 1))) aNil))) aNil)) (aCons (eC (.bl false)) aNil))) aNil))))))))))))
def f2_law : TDS :=
  (sExpr (eAppend (eVar 2) (eTup (aCons (eCall w_is_price (aCons (eVar 4) aNil)) (aCons (eC (.bl false)) aNil)))))
def t_law : TDS :=
  (sSeq (sSet 1 (eCall w_law_deal (aCons (eVar 0) (aCons (eC (.int 810)) aNil))))
  (sSeq (sSet 2 (eLst aNil))
  (sSeq (sFor (iRange1 (eC (.int 14))) (gNm 3) f1_law)
  (sSeq (sFor (iSeq (eLst (aCons (eC (.non)) (aCons (eC (.int 0)) (aCons (eC (.int 1)) (aCons (eC (.bl true)) (aCons (eC (.str "1")) (aCons (eTup aNil) (aCons (eTup (aCons (eC (.int 1)) aNil)) (aCons (eTup (aCons (eC (.int 1)) (aCons (eC (.int 0)) aNil))) (aCons (eTup (aCons (eC (.int 0)) (aCons (eC (.int 2)) aNil))) (aCons (eTup (aCons (eC (.int 2)) (aCons (eC (.int 4)) aNil))) (aCons (eTup (aCons (eC (.bl true)) (aCons (eC (.int 1)) aNil))) (aCons (eTup (aCons (eC (.int 1)) (aCons (eC (.bl true)) aNil))) (aCons (eTup (aCons (eTup (aCons (eC (.int 1)) (aCons (eC (.int 1)) aNil))) aNil)) (aCons (eTup (aCons (e2 subD (eC (.int 0)) (eC (.int 1))) (aCons (eC (.int 2)) aNil))) (aCons (eLst aNil) (aCons (eTup (aCons (eC (.non)) (aCons (eC (.int 1)) aNil))) aNil)))))))))))))))))) (gNm 4) f2_law)
  (sSeq (sSet 2 (e2 addD (eVar 2) (eLst (aCons (eTup (aCons (eCall w_is_price (aCons (eTup (aCons (eC (.int 0)) (aCons (eC (.int 1)) aNil))) aNil)) (aCons (eC (.bl true)) aNil))) (aCons (eTup (aCons (eCall w_price_text (aCons (eTup (aCons (eC (.int 0)) (aCons (eC (.int 1)) aNil))) aNil)) (aCons (eC (.str "0")) aNil))) (aCons (eTup (aCons (eCall w_price_text (aCons (eTup (aCons (eC (.int 7)) (aCons (eC (.int 2)) aNil))) aNil)) (aCons (eC (.str "7/2")) aNil))) (aCons (eTup (aCons (eCall w_price_plus (aCons (eTup (aCons (eC (.int 1)) (aCons (eC (.int 2)) aNil))) (aCons (eTup (aCons (eC (.int 1)) (aCons (eC (.int 2)) aNil))) aNil))) (aCons (eTup (aCons (eC (.int 1)) (aCons (eC (.int 1)) aNil))) aNil))) aNil)))))))
  (sRet (eCall w_law_all (aCons (e2 addD (eVar 2) (eLst (aCons (eTup (aCons (eCall w_price_times (aCons (eTup (aCons (eC (.int 2)) (aCons (eC (.int 3)) aNil))) (aCons (eTup (aCons (eC (.int 3)) (aCons (eC (.int 4)) aNil))) aNil))) (aCons (eTup (aCons (eC (.int 1)) (aCons (eC (.int 2)) aNil))) aNil))) (aCons (eTup (aCons (eCall w_is_dearer (aCons (eTup (aCons (eC (.int 1)) (aCons (eC (.int 2)) aNil))) (aCons (eTup (aCons (eC (.int 1)) (aCons (eC (.int 3)) aNil))) aNil))) (aCons (eC (.bl true)) aNil))) (aCons (eTup (aCons (eCall w_is_price (aCons (eTup (aCons (e2 powD (eC (.int 10)) (eC (.int 60))) (aCons (eC (.int 7)) aNil))) aNil)) (aCons (eC (.bl true)) aNil))) aNil))))) aNil))))))))
@[irreducible] def w_law : DSp := wOf 8 t_law
theorem w_law_eq : w_law = wOf 8 t_law := by unfold w_law; rfl

/-! ### what the top has written -/
def dd_is_integer : He.DefD := ⟨("is_integer", none), "is_integer", "is_integer", defArgs s_is_integer, defBody s_is_integer, defScope s_is_integer, [], []⟩
def dd_is_tuple : He.DefD := ⟨("is_tuple", none), "is_tuple", "is_tuple", defArgs s_is_tuple, defBody s_is_tuple, defScope s_is_tuple, [], []⟩
def dd_common_divisor : He.DefD := ⟨("common_divisor", none), "common_divisor", "common_divisor", defArgs s_common_divisor, defBody s_common_divisor, defScope s_common_divisor, [], []⟩
def dd_ratio : He.DefD := ⟨("ratio", none), "ratio", "ratio", defArgs s_ratio, defBody s_ratio, defScope s_ratio, [], []⟩
def dd_is_fraction : He.DefD := ⟨("is_fraction", none), "is_fraction", "is_fraction", defArgs s_is_fraction, defBody s_is_fraction, defScope s_is_fraction, [], []⟩
def dd_ratio_plus : He.DefD := ⟨("ratio_plus", none), "ratio_plus", "ratio_plus", defArgs s_ratio_plus, defBody s_ratio_plus, defScope s_ratio_plus, [], []⟩
def dd_ratio_times : He.DefD := ⟨("ratio_times", none), "ratio_times", "ratio_times", defArgs s_ratio_times, defBody s_ratio_times, defScope s_ratio_times, [], []⟩
def dd_is_above : He.DefD := ⟨("is_above", none), "is_above", "is_above", defArgs s_is_above, defBody s_is_above, defScope s_is_above, [], []⟩
def dd_is_price : He.DefD := ⟨("is_price", none), "is_price", "is_price", defArgs s_is_price, defBody s_is_price, defScope s_is_price, [], []⟩
def dd_price_plus : He.DefD := ⟨("price_plus", none), "price_plus", "price_plus", defArgs s_price_plus, defBody s_price_plus, defScope s_price_plus, [], []⟩
def dd_price_times : He.DefD := ⟨("price_times", none), "price_times", "price_times", defArgs s_price_times, defBody s_price_times, defScope s_price_times, [], []⟩
def dd_is_dearer : He.DefD := ⟨("is_dearer", none), "is_dearer", "is_dearer", defArgs s_is_dearer, defBody s_is_dearer, defScope s_is_dearer, [], []⟩
def dd_price_text : He.DefD := ⟨("price_text", none), "price_text", "price_text", defArgs s_price_text, defBody s_price_text, defScope s_price_text, [], []⟩
def dd_law_deal : He.DefD := ⟨("_law_deal", none), "_law_deal", "_law_deal", defArgs s_law_deal, defBody s_law_deal, defScope s_law_deal, [], []⟩
def dd_law_any : He.DefD := ⟨("_law_any", none), "_law_any", "_law_any", defArgs s_law_any, defBody s_law_any, defScope s_law_any, [], []⟩
def dd_law_of : He.DefD := ⟨("_law_of", none), "_law_of", "_law_of", defArgs s_law_of, defBody s_law_of, defScope s_law_of, [], []⟩
def dd_law_is_kind : He.DefD := ⟨("_law_is_kind", none), "_law_is_kind", "_law_is_kind", defArgs s_law_is_kind, defBody s_law_is_kind, defScope s_law_is_kind, [], []⟩
def dd_law_same : He.DefD := ⟨("_law_same", none), "_law_same", "_law_same", defArgs s_law_same, defBody s_law_same, defScope s_law_same, [], []⟩
def dd_law_all : He.DefD := ⟨("_law_all", none), "_law_all", "_law_all", defArgs s_law_all, defBody s_law_all, defScope s_law_all, [], []⟩
def dd_law_divisor : He.DefD := ⟨("_law_divisor", none), "_law_divisor", "_law_divisor", defArgs s_law_divisor, defBody s_law_divisor, defScope s_law_divisor, [], []⟩
def dd_law_ratio : He.DefD := ⟨("_law_ratio", none), "_law_ratio", "_law_ratio", defArgs s_law_ratio, defBody s_law_ratio, defScope s_law_ratio, [], []⟩
def dd_law_plus : He.DefD := ⟨("_law_plus", none), "_law_plus", "_law_plus", defArgs s_law_plus, defBody s_law_plus, defScope s_law_plus, [], []⟩
def dd_law_times : He.DefD := ⟨("_law_times", none), "_law_times", "_law_times", defArgs s_law_times, defBody s_law_times, defScope s_law_times, [], []⟩
def dd_law_below : He.DefD := ⟨("_law_below", none), "_law_below", "_law_below", defArgs s_law_below, defBody s_law_below, defScope s_law_below, [], []⟩
def dd_law_price : He.DefD := ⟨("_law_price", none), "_law_price", "_law_price", defArgs s_law_price, defBody s_law_price, defScope s_law_price, [], []⟩
def dd_law_price_text : He.DefD := ⟨("_law_price_text", none), "_law_price_text", "_law_price_text", defArgs s_law_price_text, defBody s_law_price_text, defScope s_law_price_text, [], []⟩
def dd_law_any_price : He.DefD := ⟨("_law_any_price", none), "_law_any_price", "_law_any_price", defArgs s_law_any_price, defBody s_law_any_price, defScope s_law_any_price, [], []⟩
def dd_law : He.DefD := ⟨("law", none), "law", "law", defArgs s_law, defBody s_law, defScope s_law, [], []⟩
def fns : List He.DefD := [dd_is_integer, dd_is_tuple, dd_common_divisor, dd_ratio, dd_is_fraction, dd_ratio_plus, dd_ratio_times, dd_is_above, dd_is_price, dd_price_plus, dd_price_times, dd_is_dearer, dd_price_text, dd_law_deal, dd_law_any, dd_law_of, dd_law_is_kind, dd_law_same, dd_law_all, dd_law_divisor, dd_law_ratio, dd_law_plus, dd_law_times, dd_law_below, dd_law_price, dd_law_price_text, dd_law_any_price, dd_law]
def fas : List He.Fa := [.free "isinstance", .free "int", .free "bool", .glo "is_integer", .free "tuple", .free "len", .glo "is_tuple", .free "abs", .glo "common_divisor", .glo "ratio", .glo "is_fraction", .glo "ratio_plus", .glo "ratio_times", .glo "is_above", .glo "is_price", .glo "price_plus", .glo "price_times", .glo "is_dearer", .free "str", .glo "price_text", .glo "_law_deal", .glo "_law_any", .glo "_law_of", .glo "_law_is_kind", .free "range", .free "list", .free "dict", .glo "_law_same", .glo "_law_all", .glo "_law_divisor", .glo "_law_ratio", .glo "_law_plus", .glo "_law_times", .glo "_law_below", .glo "_law_price", .glo "_law_price_text", .glo "_law_any_price", .glo "law"]
def css : List (Str × D) := []
abbrev TX (K : PySem.W.Frag) (mg : Str → Option Value) : Prop := Tx fas fns css K mg
/-! ### each def keeps its reading -/
section
variable {P : Program} {w : World} {K : PySem.W.Frag} {mg : Str → Option Value} {base : Heap}
theorem sc_is_integer : FnScope ["value"] ["value"] (defScope s_is_integer) := ⟨rfl, rfl, rfl, by decide +kernel, rfl, by decide +kernel, by decide +kernel⟩
theorem ok_is_integer (T : TX K mg) : DefOk P w K mg base "is_integer" s_is_integer 1 ["value"] 1 w_is_integer := by
  rw [w_is_integer_eq]
  refine T.defD (T.glo 3) 0 rfl sc_is_integer rfl rfl (fun _ _ _ _ _ _ us hl => match us, hl with | [_], _ => rfl) fun cdv A outer s H E hr => ?_
  exact (ds_one (ds_ret (de_and (de_isi 2 (by decide) (by decide) (T.free 0) (T.free 1) (by decide +kernel) (de_var 0)) (pe_one (de_not (de_isi 1 (by decide) (by decide) (T.free 0) (T.free 2) (by decide +kernel) (de_var 0)))))))

theorem sc_is_tuple : FnScope ["value", "many"] ["value", "many"] (defScope s_is_tuple) := ⟨rfl, rfl, rfl, by decide +kernel, rfl, by decide +kernel, by decide +kernel⟩
theorem ok_is_tuple (T : TX K mg) : DefOk P w K mg base "is_tuple" s_is_tuple 1 ["value", "many"] 2 w_is_tuple := by
  rw [w_is_tuple_eq]
  refine T.defD (T.glo 6) 1 rfl sc_is_tuple rfl rfl (fun _ _ _ _ _ _ us hl => match us, hl with | [_, _], _ => rfl) fun cdv A outer s H E hr => ?_
  exact (ds_one (ds_ret (de_and (de_isi 4 (by decide) (by decide) (T.free 0) (T.free 4) (by decide +kernel) (de_var 0)) (pe_one (de_eq (de_callB call_len br_len (T.free 5) PySem.boot_len (da_cons (de_var 0) da_nil)) (de_var 1))))))

theorem sc_common_divisor : FnScope ["one", "other"] ["one", "other"] (defScope s_common_divisor) := ⟨rfl, rfl, rfl, by decide +kernel, rfl, by decide +kernel, by decide +kernel⟩
theorem ok_common_divisor (T : TX K mg) : DefOk P w K mg base "common_divisor" s_common_divisor 1 ["one", "other"] 2 w_common_divisor := by
  rw [w_common_divisor_eq]
  refine T.defD (T.glo 8) 2 rfl sc_common_divisor rfl rfl (fun _ _ _ _ _ _ us hl => match us, hl with | [_, _], _ => rfl) fun cdv A outer s H E hr => ?_
  exact (ds_cons (ds_par (i := 0) (j := 1) sc_common_divisor.nd rfl (da_cons (de_callB call_abs br_abs (T.free 7) (by decide +kernel) (da_cons (de_var 0) da_nil)) (da_cons (de_callB call_abs br_abs (T.free 7) (by decide +kernel) (da_cons (de_var 1) da_nil)) da_nil)))
    (ds_cons (ds_while poF (dt_ne (de_var 1) de_int)
    (ds_one (ds_par (i := 0) (j := 1) sc_common_divisor.nd rfl (da_cons (de_var 1) (da_cons (de_mod (de_var 0) (de_var 1)) da_nil)))))
    (ds_one (ds_ret (de_var 0)))))

theorem sc_ratio : FnScope ["top", "bottom", "both"] ["top", "bottom"] (defScope s_ratio) := ⟨rfl, rfl, rfl, by decide +kernel, rfl, by decide +kernel, by decide +kernel⟩
theorem ok_ratio (T : TX K mg) : DefOk P w K mg base "ratio" s_ratio 2 ["top", "bottom"] 2 w_ratio := by
  rw [w_ratio_eq]
  refine T.defD (T.glo 9) 3 rfl sc_ratio rfl rfl (fun _ _ _ _ _ _ us hl => match us, hl with | [_, _], _ => rfl) fun cdv A outer s H E hr => ?_
  exact (ds_cons (ds_if (dt_lt (de_var 1) de_int)
    (ds_one (ds_par (i := 0) (j := 1) sc_ratio.nd rfl (da_cons (de_neg (de_var 0)) (da_cons (de_neg (de_var 1)) da_nil))))
    ds_nil)
    (ds_cons (ds_set (i := 2) sc_ratio.nd (de_fn (ok_common_divisor T) (hr.mono (by decide)) tkF (da_cons (de_var 0) (da_cons (de_var 1) da_nil))))
    (ds_one (ds_ret (de_tup (da_cons (de_div (de_var 0) (de_var 2)) (da_cons (de_div (de_var 1) (de_var 2)) da_nil)))))))

theorem sc_is_fraction : FnScope ["value"] ["value"] (defScope s_is_fraction) := ⟨rfl, rfl, rfl, by decide +kernel, rfl, by decide +kernel, by decide +kernel⟩
theorem ok_is_fraction (T : TX K mg) : DefOk P w K mg base "is_fraction" s_is_fraction 2 ["value"] 1 w_is_fraction := by
  rw [w_is_fraction_eq]
  refine T.defD (T.glo 10) 4 rfl sc_is_fraction rfl rfl (fun _ _ _ _ _ _ us hl => match us, hl with | [_], _ => rfl) fun cdv A outer s H E hr => ?_
  exact (ds_cons (ds_if (L2.PW.pt (dw_or (dt_not (dt_tru (de_fn (ok_is_tuple T) (hr.mono (by decide)) tkF (da_cons (de_var 0) (da_cons de_int da_nil))))) (dw_or (dt_not (dt_tru (de_fn (ok_is_integer T) (hr.mono (by decide)) tkF (da_cons (de_ix (de_var 0) de_int) da_nil)))) (pw_or1 (dt_not (dt_tru (de_fn (ok_is_integer T) (hr.mono (by decide)) tkF (da_cons (de_ix (de_var 0) de_int) da_nil))))))))
    (ds_one (ds_ret de_bl))
    ds_nil)
    (ds_one (ds_ret (de_and (de_ge (de_ix (de_var 0) de_int) de_int) (pe_one (de_eq (de_fn (ok_common_divisor T) (hr.mono (by decide)) tkF (da_cons (de_ix (de_var 0) de_int) (da_cons (de_ix (de_var 0) de_int) da_nil))) de_int))))))

theorem sc_ratio_plus : FnScope ["one", "other"] ["one", "other"] (defScope s_ratio_plus) := ⟨rfl, rfl, rfl, by decide +kernel, rfl, by decide +kernel, by decide +kernel⟩
theorem ok_ratio_plus (T : TX K mg) : DefOk P w K mg base "ratio_plus" s_ratio_plus 3 ["one", "other"] 2 w_ratio_plus := by
  rw [w_ratio_plus_eq]
  refine T.defD (T.glo 11) 5 rfl sc_ratio_plus rfl rfl (fun _ _ _ _ _ _ us hl => match us, hl with | [_, _], _ => rfl) fun cdv A outer s H E hr => ?_
  exact (ds_one (ds_ret (de_fn (ok_ratio T) (hr.mono (by decide)) tkF (da_cons (de_add (de_mul (de_ix (de_var 0) de_int) (de_ix (de_var 1) de_int)) (de_mul (de_ix (de_var 1) de_int) (de_ix (de_var 0) de_int))) (da_cons (de_mul (de_ix (de_var 0) de_int) (de_ix (de_var 1) de_int)) da_nil)))))

theorem sc_ratio_times : FnScope ["one", "other"] ["one", "other"] (defScope s_ratio_times) := ⟨rfl, rfl, rfl, by decide +kernel, rfl, by decide +kernel, by decide +kernel⟩
theorem ok_ratio_times (T : TX K mg) : DefOk P w K mg base "ratio_times" s_ratio_times 3 ["one", "other"] 2 w_ratio_times := by
  rw [w_ratio_times_eq]
  refine T.defD (T.glo 12) 6 rfl sc_ratio_times rfl rfl (fun _ _ _ _ _ _ us hl => match us, hl with | [_, _], _ => rfl) fun cdv A outer s H E hr => ?_
  exact (ds_one (ds_ret (de_fn (ok_ratio T) (hr.mono (by decide)) tkF (da_cons (de_mul (de_ix (de_var 0) de_int) (de_ix (de_var 1) de_int)) (da_cons (de_mul (de_ix (de_var 0) de_int) (de_ix (de_var 1) de_int)) da_nil)))))

theorem sc_is_above : FnScope ["one", "other"] ["one", "other"] (defScope s_is_above) := ⟨rfl, rfl, rfl, by decide +kernel, rfl, by decide +kernel, by decide +kernel⟩
theorem ok_is_above (T : TX K mg) : DefOk P w K mg base "is_above" s_is_above 1 ["one", "other"] 2 w_is_above := by
  rw [w_is_above_eq]
  refine T.defD (T.glo 13) 7 rfl sc_is_above rfl rfl (fun _ _ _ _ _ _ us hl => match us, hl with | [_, _], _ => rfl) fun cdv A outer s H E hr => ?_
  exact (ds_one (ds_ret (de_gt (de_mul (de_ix (de_var 0) de_int) (de_ix (de_var 1) de_int)) (de_mul (de_ix (de_var 1) de_int) (de_ix (de_var 0) de_int)))))

theorem sc_is_price : FnScope ["value"] ["value"] (defScope s_is_price) := ⟨rfl, rfl, rfl, by decide +kernel, rfl, by decide +kernel, by decide +kernel⟩
theorem ok_is_price (T : TX K mg) : DefOk P w K mg base "is_price" s_is_price 3 ["value"] 1 w_is_price := by
  rw [w_is_price_eq]
  refine T.defD (T.glo 14) 8 rfl sc_is_price rfl rfl (fun _ _ _ _ _ _ us hl => match us, hl with | [_], _ => rfl) fun cdv A outer s H E hr => ?_
  exact (ds_one (ds_ret (de_and (de_fn (ok_is_fraction T) (hr.mono (by decide)) tkF (da_cons (de_var 0) da_nil)) (pe_one (de_ge (de_ix (de_var 0) de_int) de_int)))))

theorem sc_price_plus : FnScope ["one", "other"] ["one", "other"] (defScope s_price_plus) := ⟨rfl, rfl, rfl, by decide +kernel, rfl, by decide +kernel, by decide +kernel⟩
theorem ok_price_plus (T : TX K mg) : DefOk P w K mg base "price_plus" s_price_plus 4 ["one", "other"] 2 w_price_plus := by
  rw [w_price_plus_eq]
  refine T.defD (T.glo 15) 9 rfl sc_price_plus rfl rfl (fun _ _ _ _ _ _ us hl => match us, hl with | [_, _], _ => rfl) fun cdv A outer s H E hr => ?_
  exact (ds_one (ds_ret (de_fn (ok_ratio_plus T) (hr.mono (by decide)) tkF (da_cons (de_var 0) (da_cons (de_var 1) da_nil)))))

theorem sc_price_times : FnScope ["number", "price"] ["number", "price"] (defScope s_price_times) := ⟨rfl, rfl, rfl, by decide +kernel, rfl, by decide +kernel, by decide +kernel⟩
theorem ok_price_times (T : TX K mg) : DefOk P w K mg base "price_times" s_price_times 4 ["number", "price"] 2 w_price_times := by
  rw [w_price_times_eq]
  refine T.defD (T.glo 16) 10 rfl sc_price_times rfl rfl (fun _ _ _ _ _ _ us hl => match us, hl with | [_, _], _ => rfl) fun cdv A outer s H E hr => ?_
  exact (ds_one (ds_ret (de_fn (ok_ratio_times T) (hr.mono (by decide)) tkF (da_cons (de_var 0) (da_cons (de_var 1) da_nil)))))

theorem sc_is_dearer : FnScope ["one", "other"] ["one", "other"] (defScope s_is_dearer) := ⟨rfl, rfl, rfl, by decide +kernel, rfl, by decide +kernel, by decide +kernel⟩
theorem ok_is_dearer (T : TX K mg) : DefOk P w K mg base "is_dearer" s_is_dearer 2 ["one", "other"] 2 w_is_dearer := by
  rw [w_is_dearer_eq]
  refine T.defD (T.glo 17) 11 rfl sc_is_dearer rfl rfl (fun _ _ _ _ _ _ us hl => match us, hl with | [_, _], _ => rfl) fun cdv A outer s H E hr => ?_
  exact (ds_one (ds_ret (de_fn (ok_is_above T) (hr.mono (by decide)) tkF (da_cons (de_var 0) (da_cons (de_var 1) da_nil)))))

theorem sc_price_text : FnScope ["price"] ["price"] (defScope s_price_text) := ⟨rfl, rfl, rfl, by decide +kernel, rfl, by decide +kernel, by decide +kernel⟩
theorem ok_price_text (T : TX K mg) : DefOk P w K mg base "price_text" s_price_text 1 ["price"] 1 w_price_text := by
  rw [w_price_text_eq]
  refine T.defD (T.glo 19) 12 rfl sc_price_text rfl rfl (fun _ _ _ _ _ _ us hl => match us, hl with | [_], _ => rfl) fun cdv A outer s H E hr => ?_
  exact (ds_one (ds_ret (de_if (dt_eq (de_ix (de_var 0) de_int) de_int) (de_callTy call_str_int br_str (T.free 18) PyProof.Rows.boot_str (da_cons (de_ix (de_var 0) de_int) da_nil)) (de_joined (DJ.cons (de_fmt (de_ix (de_var 0) de_int)) (DJ.cons de_str (DJ.cons (de_fmt (de_ix (de_var 0) de_int)) DJ.nil)))))))

theorem sc_law_deal : FnScope ["script", "salt", "most", "cells", "mix", "cell"] ["script", "salt"] (defScope s_law_deal) := ⟨rfl, rfl, rfl, by decide +kernel, rfl, by decide +kernel, by decide +kernel⟩
theorem ok_law_deal (T : TX K mg) : DefOk P w K mg base "_law_deal" s_law_deal 1 ["script", "salt"] 2 w_law_deal := by
  rw [w_law_deal_eq]
  refine T.defD (T.glo 20) 13 rfl sc_law_deal rfl rfl (fun _ _ _ _ _ _ us hl => match us, hl with | [_, _], _ => rfl) fun cdv A outer s H E hr => ?_
  exact (ds_cons (ds_set (i := 2) sc_law_deal.nd (de_mul (de_mul (de_mul (de_mul (de_mul (de_pow de_int de_int) (de_pow de_int de_int)) (de_pow de_int de_int)) (de_pow de_int de_int)) (de_pow de_int de_int)) (de_pow de_int de_int)))
    (ds_cons (ds_setLc (i := 3) (own := [("cell", 5)]) rfl sc_law_deal.nd (by dsimp only [cxOf, envOfC, compEnvC]; decide +kernel) (by decide +kernel) (di_seq (de_slice (de_var 0) do_none (do_some de_int))) (fun _ _ _ _ _ => (dg_name sc_law_deal.nd (by decide))) (fun _ _ _ _ _ => dts_nil) (fun _ _ _ _ _ => (de_mod (de_callTy call_int1 br_int (T.free 1) PyProof.Rows.boot_int (da_cons (de_callB call_abs br_abs (T.free 7) (by decide +kernel) (da_cons (de_callTy call_int1 br_int (T.free 1) PyProof.Rows.boot_int (da_cons (de_var 5) da_nil)) da_nil)) da_nil)) (de_var 2))))
    (ds_cons (ds_set (i := 4) sc_law_deal.nd (de_add de_int (de_mul de_int (de_var 1))))
    (ds_cons (ds_for (vs := [5]) poF rfl (di_seq (de_var 3)) (dg_name sc_law_deal.nd (by decide))
    (ds_one (ds_set (i := 4) sc_law_deal.nd (de_mod (de_callTy call_int1 br_int (T.free 1) PyProof.Rows.boot_int (da_cons (de_add (de_add (de_mul (de_var 4) de_int) (de_mod (de_callTy call_int1 br_int (T.free 1) PyProof.Rows.boot_int (da_cons (de_var 5) da_nil)) de_int)) de_int) da_nil)) de_int))))
    (ds_one (ds_ret (de_lst (da_cons (de_rev (de_lc (own := [("cell", 5)]) rfl sc_law_deal.nd (by dsimp only [cxOf, envOfC, compEnvC]; decide +kernel) (di_seq (de_var 3)) (fun _ _ _ _ _ => (dg_name sc_law_deal.nd (by decide))) (fun _ _ _ _ _ => (dts_one (dt_ge (de_var 5) (de_pow de_int de_int)))) (fun _ _ _ _ _ => (de_var 5)))) (da_cons (de_var 4) da_nil)))))))))

theorem sc_law_any : FnScope ["deal", "bound", "rest"] ["deal", "bound"] (defScope s_law_any) := ⟨rfl, rfl, rfl, by decide +kernel, rfl, by decide +kernel, by decide +kernel⟩
theorem ok_law_any (T : TX K mg) : DefOk P w K mg base "_law_any" s_law_any 1 ["deal", "bound"] 2 w_law_any := by
  rw [w_law_any_eq]
  refine T.defD (T.glo 21) 14 rfl sc_law_any rfl rfl (fun _ _ _ _ _ _ us hl => match us, hl with | [_, _], _ => rfl) fun cdv A outer s H E hr => ?_
  exact (ds_cons (ds_while poF (L2.PW.pt (dw_and (dt_gt (de_callB call_len br_len (T.free 5) PySem.boot_len (da_cons (de_ix (de_var 0) de_int) da_nil)) de_int) (pw_and1 (dt_eq (de_ix (de_ix (de_var 0) de_int) (de_neg de_int)) de_int))))
    (ds_one (ds_expr (de_pop (de_ix (de_var 0) de_int)))))
    (ds_cons (ds_if (dt_gt (de_callB call_len br_len (T.free 5) PySem.boot_len (da_cons (de_ix (de_var 0) de_int) da_nil)) de_int)
    (ds_cons (ds_set (i := 2) sc_law_any.nd (de_callTy call_int1 br_int (T.free 1) PyProof.Rows.boot_int (da_cons (de_pop (de_ix (de_var 0) de_int)) da_nil)))
    (ds_cons (ds_expr (de_append (de_ix (de_var 0) de_int) (de_div (de_var 2) (de_var 1))))
    (ds_one (ds_ret (de_mod (de_var 2) (de_var 1))))))
    ds_nil)
    (ds_cons (ds_setIx (de_mod (de_callTy call_int1 br_int (T.free 1) PyProof.Rows.boot_int (da_cons (de_add (de_mul (de_ix (de_var 0) de_int) de_int) de_int) da_nil)) de_int) (de_var 0) de_int)
    (ds_one (ds_ret (de_mod (de_callTy call_int1 br_int (T.free 1) PyProof.Rows.boot_int (da_cons (de_div (de_ix (de_var 0) de_int) de_int) da_nil)) (de_var 1)))))))

theorem sc_law_of : FnScope ["deal", "some"] ["deal", "some"] (defScope s_law_of) := ⟨rfl, rfl, rfl, by decide +kernel, rfl, by decide +kernel, by decide +kernel⟩
theorem ok_law_of (T : TX K mg) : DefOk P w K mg base "_law_of" s_law_of 2 ["deal", "some"] 2 w_law_of := by
  rw [w_law_of_eq]
  refine T.defD (T.glo 22) 15 rfl sc_law_of rfl rfl (fun _ _ _ _ _ _ us hl => match us, hl with | [_, _], _ => rfl) fun cdv A outer s H E hr => ?_
  exact (ds_one (ds_ret (de_ix (de_var 1) (de_fn (ok_law_any T) (hr.mono (by decide)) tkF (da_cons (de_var 0) (da_cons (de_callB call_len br_len (T.free 5) PySem.boot_len (da_cons (de_var 1) da_nil)) da_nil))))))

theorem sc_law_is_kind : FnScope ["told", "due"] ["told", "due"] (defScope s_law_is_kind) := ⟨rfl, rfl, rfl, by decide +kernel, rfl, by decide +kernel, by decide +kernel⟩
theorem ok_law_is_kind (T : TX K mg) : DefOk P w K mg base "_law_is_kind" s_law_is_kind 1 ["told", "due"] 2 w_law_is_kind := by
  rw [w_law_is_kind_eq]
  refine T.defD (T.glo 23) 16 rfl sc_law_is_kind rfl rfl (fun _ _ _ _ _ _ us hl => match us, hl with | [_, _], _ => rfl) fun cdv A outer s H E hr => ?_
  exact (ds_cons (ds_if (dt_isN (de_var 1))
    (ds_one (ds_ret (de_isN (de_var 0))))
    ds_nil)
    (ds_cons (ds_if (L2.PW.pt (dw_or (dt_isB (de_var 1)) (pw_or1 (dt_isB (de_var 1)))))
    (ds_one (ds_ret (de_if (dt_tru (de_var 1)) (de_isB (de_var 0)) (de_isB (de_var 0)))))
    ds_nil)
    (ds_cons (ds_if (dt_tru (de_isi 3 (by decide) (by decide) (T.free 0) (T.free 18) (by decide +kernel) (de_var 1)))
    (ds_one (ds_ret (de_and (de_isi 3 (by decide) (by decide) (T.free 0) (T.free 18) (by decide +kernel) (de_var 0)) (pe_one (de_eq (de_var 0) (de_var 1))))))
    ds_nil)
    (ds_one (ds_ret (de_and (de_isi 2 (by decide) (by decide) (T.free 0) (T.free 1) (by decide +kernel) (de_var 0)) (de_and (de_not (de_isi 1 (by decide) (by decide) (T.free 0) (T.free 2) (by decide +kernel) (de_var 0))) (pe_one (de_eq (de_var 0) (de_var 1))))))))))

theorem sc_law_same : FnScope ["told", "due", "todo", "one", "other", "at"] ["told", "due"] (defScope s_law_same) := ⟨rfl, rfl, rfl, by decide +kernel, rfl, by decide +kernel, by decide +kernel⟩
theorem ok_law_same (T : TX K mg) : DefOk P w K mg base "_law_same" s_law_same 2 ["told", "due"] 2 w_law_same := by
  rw [w_law_same_eq]
  refine T.defD (T.glo 27) 17 rfl sc_law_same rfl rfl (fun _ _ _ _ _ _ us hl => match us, hl with | [_, _], _ => rfl) fun cdv A outer s H E hr => ?_
  exact (ds_cons (ds_set (i := 2) sc_law_same.nd (de_lst (da_cons (de_tup (da_cons (de_var 0) (da_cons (de_var 1) da_nil))) da_nil)))
    (ds_cons (ds_while poF (dt_gt (de_callB call_len br_len (T.free 5) PySem.boot_len (da_cons (de_var 2) da_nil)) de_int)
    (ds_cons (ds_asg (vs := [3, 4]) (de_pop (de_var 2)) (dg_tup rfl (dgs_cons (dg_name sc_law_same.nd (by decide)) (dgs_cons (dg_name sc_law_same.nd (by decide)) dgs_nil))))
    (ds_one (ds_if (dt_tru (de_isi 4 (by decide) (by decide) (T.free 0) (T.free 4) (by decide +kernel) (de_var 4)))
    (ds_cons (ds_if (L2.PW.pt (dw_or (dt_not (dt_tru (de_isi 4 (by decide) (by decide) (T.free 0) (T.free 4) (by decide +kernel) (de_var 3)))) (pw_or1 (dt_ne (de_callB call_len br_len (T.free 5) PySem.boot_len (da_cons (de_var 3) da_nil)) (de_callB call_len br_len (T.free 5) PySem.boot_len (da_cons (de_var 4) da_nil))))))
    (ds_one (ds_ret de_bl))
    ds_nil)
    (ds_one (ds_for (vs := [5]) poF rfl (di_range1 (T.free 24) (de_callB call_len br_len (T.free 5) PySem.boot_len (da_cons (de_var 4) da_nil))) (dg_name sc_law_same.nd (by decide))
    (ds_one (ds_expr (de_append (de_var 2) (de_tup (da_cons (de_ix (de_var 3) (de_var 5)) (da_cons (de_ix (de_var 4) (de_var 5)) da_nil)))))))))
    (ds_one (ds_if (L2.PW.pt (dw_or (dt_tru (de_isi3 4 5 6 (by decide) (by decide) (by decide) (T.free 0) (T.free 4) (T.free 25) (T.free 26) (by decide +kernel) (by decide +kernel) (by decide +kernel) (de_var 3))) (pw_or1 (dt_not (dt_tru (de_fn (ok_law_is_kind T) (hr.mono (by decide)) tkF (da_cons (de_var 3) (da_cons (de_var 4) da_nil))))))))
    (ds_one (ds_ret de_bl))
    ds_nil))))))
    (ds_one (ds_ret de_bl))))

theorem sc_law_all : FnScope ["pairs", "told", "due"] ["pairs"] (defScope s_law_all) := ⟨rfl, rfl, rfl, by decide +kernel, rfl, by decide +kernel, by decide +kernel⟩
theorem ok_law_all (T : TX K mg) : DefOk P w K mg base "_law_all" s_law_all 3 ["pairs"] 1 w_law_all := by
  rw [w_law_all_eq]
  refine T.defD (T.glo 28) 18 rfl sc_law_all rfl rfl (fun _ _ _ _ _ _ us hl => match us, hl with | [_], _ => rfl) fun cdv A outer s H E hr => ?_
  exact (ds_one (ds_ret (de_eq (de_callB call_len br_len (T.free 5) PySem.boot_len (da_cons (de_lc (own := [("told", 1), ("due", 2)]) rfl sc_law_all.nd (by dsimp only [cxOf, envOfC, compEnvC]; decide +kernel) (di_seq (de_var 0)) (fun _ _ _ _ _ => (dg_tup rfl (dgs_cons (dg_name sc_law_all.nd (by decide)) (dgs_cons (dg_name sc_law_all.nd (by decide)) dgs_nil)))) (fun _ _ _ _ _ => (dts_one (dt_not (dt_tru (de_fn (ok_law_same T) (hr.mono (by decide)) takes0 (da_cons (de_var 1) (da_cons (de_var 2) da_nil))))))) (fun _ _ _ _ _ => (de_var 1))) da_nil)) de_int)))

theorem sc_law_divisor : FnScope ["one", "other"] ["one", "other"] (defScope s_law_divisor) := ⟨rfl, rfl, rfl, by decide +kernel, rfl, by decide +kernel, by decide +kernel⟩
theorem ok_law_divisor (T : TX K mg) : DefOk P w K mg base "_law_divisor" s_law_divisor 1 ["one", "other"] 2 w_law_divisor := by
  rw [w_law_divisor_eq]
  refine T.defD (T.glo 29) 19 rfl sc_law_divisor rfl rfl (fun _ _ _ _ _ _ us hl => match us, hl with | [_, _], _ => rfl) fun cdv A outer s H E hr => ?_
  exact (ds_cons (ds_while poF (dt_ne (de_var 1) de_int)
    (ds_one (ds_par (i := 0) (j := 1) sc_law_divisor.nd rfl (da_cons (de_var 1) (da_cons (de_mod (de_callTy call_int1 br_int (T.free 1) PyProof.Rows.boot_int (da_cons (de_var 0) da_nil)) (de_var 1)) da_nil)))))
    (ds_one (ds_ret (de_var 0))))

theorem sc_law_ratio : FnScope ["top", "bottom", "both"] ["top", "bottom"] (defScope s_law_ratio) := ⟨rfl, rfl, rfl, by decide +kernel, rfl, by decide +kernel, by decide +kernel⟩
theorem ok_law_ratio (T : TX K mg) : DefOk P w K mg base "_law_ratio" s_law_ratio 2 ["top", "bottom"] 2 w_law_ratio := by
  rw [w_law_ratio_eq]
  refine T.defD (T.glo 30) 20 rfl sc_law_ratio rfl rfl (fun _ _ _ _ _ _ us hl => match us, hl with | [_, _], _ => rfl) fun cdv A outer s H E hr => ?_
  exact (ds_cons (ds_if (dt_lt (de_var 1) de_int)
    (ds_one (ds_par (i := 0) (j := 1) sc_law_ratio.nd rfl (da_cons (de_sub de_int (de_var 0)) (da_cons (de_sub de_int (de_var 1)) da_nil))))
    ds_nil)
    (ds_cons (ds_set (i := 2) sc_law_ratio.nd (de_fn (ok_law_divisor T) (hr.mono (by decide)) tkF (da_cons (de_callB call_abs br_abs (T.free 7) (by decide +kernel) (da_cons (de_var 0) da_nil)) (da_cons (de_var 1) da_nil))))
    (ds_one (ds_ret (de_tup (da_cons (de_callTy call_int1 br_int (T.free 1) PyProof.Rows.boot_int (da_cons (de_div (de_var 0) (de_var 2)) da_nil)) (da_cons (de_callTy call_int1 br_int (T.free 1) PyProof.Rows.boot_int (da_cons (de_div (de_var 1) (de_var 2)) da_nil)) da_nil)))))))

theorem sc_law_plus : FnScope ["one", "other"] ["one", "other"] (defScope s_law_plus) := ⟨rfl, rfl, rfl, by decide +kernel, rfl, by decide +kernel, by decide +kernel⟩
theorem ok_law_plus (T : TX K mg) : DefOk P w K mg base "_law_plus" s_law_plus 3 ["one", "other"] 2 w_law_plus := by
  rw [w_law_plus_eq]
  refine T.defD (T.glo 31) 21 rfl sc_law_plus rfl rfl (fun _ _ _ _ _ _ us hl => match us, hl with | [_, _], _ => rfl) fun cdv A outer s H E hr => ?_
  exact (ds_one (ds_ret (de_fn (ok_law_ratio T) (hr.mono (by decide)) tkF (da_cons (de_add (de_mul (de_ix (de_var 0) de_int) (de_ix (de_var 1) de_int)) (de_mul (de_ix (de_var 1) de_int) (de_ix (de_var 0) de_int))) (da_cons (de_mul (de_ix (de_var 0) de_int) (de_ix (de_var 1) de_int)) da_nil)))))

theorem sc_law_times : FnScope ["one", "other"] ["one", "other"] (defScope s_law_times) := ⟨rfl, rfl, rfl, by decide +kernel, rfl, by decide +kernel, by decide +kernel⟩
theorem ok_law_times (T : TX K mg) : DefOk P w K mg base "_law_times" s_law_times 3 ["one", "other"] 2 w_law_times := by
  rw [w_law_times_eq]
  refine T.defD (T.glo 32) 22 rfl sc_law_times rfl rfl (fun _ _ _ _ _ _ us hl => match us, hl with | [_, _], _ => rfl) fun cdv A outer s H E hr => ?_
  exact (ds_one (ds_ret (de_fn (ok_law_ratio T) (hr.mono (by decide)) tkF (da_cons (de_mul (de_ix (de_var 0) de_int) (de_ix (de_var 1) de_int)) (da_cons (de_mul (de_ix (de_var 0) de_int) (de_ix (de_var 1) de_int)) da_nil)))))

theorem sc_law_below : FnScope ["one", "other"] ["one", "other"] (defScope s_law_below) := ⟨rfl, rfl, rfl, by decide +kernel, rfl, by decide +kernel, by decide +kernel⟩
theorem ok_law_below (T : TX K mg) : DefOk P w K mg base "_law_below" s_law_below 1 ["one", "other"] 2 w_law_below := by
  rw [w_law_below_eq]
  refine T.defD (T.glo 33) 23 rfl sc_law_below rfl rfl (fun _ _ _ _ _ _ us hl => match us, hl with | [_, _], _ => rfl) fun cdv A outer s H E hr => ?_
  exact (ds_one (ds_ret (de_lt (de_mul (de_ix (de_var 0) de_int) (de_ix (de_var 1) de_int)) (de_mul (de_ix (de_var 1) de_int) (de_ix (de_var 0) de_int)))))

theorem sc_law_price : FnScope ["deal"] ["deal"] (defScope s_law_price) := ⟨rfl, rfl, rfl, by decide +kernel, rfl, by decide +kernel, by decide +kernel⟩
theorem ok_law_price (T : TX K mg) : DefOk P w K mg base "_law_price" s_law_price 3 ["deal"] 1 w_law_price := by
  rw [w_law_price_eq]
  refine T.defD (T.glo 34) 24 rfl sc_law_price rfl rfl (fun _ _ _ _ _ _ us hl => match us, hl with | [_], _ => rfl) fun cdv A outer s H E hr => ?_
  exact (ds_one (ds_ret (de_fn (ok_law_of T) (hr.mono (by decide)) tkF (da_cons (de_var 0) (da_cons (de_lst (da_cons (de_tup (da_cons de_int (da_cons de_int da_nil))) (da_cons (de_tup (da_cons de_int (da_cons de_int da_nil))) (da_cons (de_tup (da_cons de_int (da_cons de_int da_nil))) (da_cons (de_tup (da_cons de_int (da_cons de_int da_nil))) (da_cons (de_tup (da_cons de_int (da_cons de_int da_nil))) (da_cons (de_tup (da_cons de_int (da_cons de_int da_nil))) (da_cons (de_tup (da_cons de_int (da_cons de_int da_nil))) (da_cons (de_tup (da_cons de_int (da_cons de_int da_nil))) (da_cons (de_tup (da_cons de_int (da_cons de_int da_nil))) (da_cons (de_tup (da_cons de_int (da_cons de_int da_nil))) (da_cons (de_tup (da_cons de_int (da_cons de_int da_nil))) da_nil)))))))))))) da_nil)))))

theorem sc_law_price_text : FnScope ["price"] ["price"] (defScope s_law_price_text) := ⟨rfl, rfl, rfl, by decide +kernel, rfl, by decide +kernel, by decide +kernel⟩
theorem ok_law_price_text (T : TX K mg) : DefOk P w K mg base "_law_price_text" s_law_price_text 1 ["price"] 1 w_law_price_text := by
  rw [w_law_price_text_eq]
  refine T.defD (T.glo 35) 25 rfl sc_law_price_text rfl rfl (fun _ _ _ _ _ _ us hl => match us, hl with | [_], _ => rfl) fun cdv A outer s H E hr => ?_
  exact (ds_one (ds_ret (de_if (dt_eq (de_ix (de_var 0) de_int) de_int) (de_callTy call_str_int br_str (T.free 18) PyProof.Rows.boot_str (da_cons (de_ix (de_var 0) de_int) da_nil)) (de_add (de_add (de_callTy call_str_int br_str (T.free 18) PyProof.Rows.boot_str (da_cons (de_ix (de_var 0) de_int) da_nil)) de_str) (de_callTy call_str_int br_str (T.free 18) PyProof.Rows.boot_str (da_cons (de_ix (de_var 0) de_int) da_nil))))))

theorem sc_law_any_price : FnScope ["deal"] ["deal"] (defScope s_law_any_price) := ⟨rfl, rfl, rfl, by decide +kernel, rfl, by decide +kernel, by decide +kernel⟩
theorem ok_law_any_price (T : TX K mg) : DefOk P w K mg base "_law_any_price" s_law_any_price 4 ["deal"] 1 w_law_any_price := by
  rw [w_law_any_price_eq]
  refine T.defD (T.glo 36) 26 rfl sc_law_any_price rfl rfl (fun _ _ _ _ _ _ us hl => match us, hl with | [_], _ => rfl) fun cdv A outer s H E hr => ?_
  exact (ds_one (ds_ret (de_fn (ok_law_of T) (hr.mono (by decide)) tkF (da_cons (de_var 0) (da_cons (de_lst (da_cons (de_fn (ok_law_price T) (hr.mono (by decide)) tkF (da_cons (de_var 0) da_nil)) (da_cons (de_fn (ok_law_ratio T) (hr.mono (by decide)) tkF (da_cons (de_fn (ok_law_any T) (hr.mono (by decide)) tkF (da_cons (de_var 0) (da_cons de_int da_nil))) (da_cons (de_add de_int (de_fn (ok_law_any T) (hr.mono (by decide)) tkF (da_cons (de_var 0) (da_cons de_int da_nil)))) da_nil))) da_nil))) da_nil)))))

theorem sc_law : FnScope ["script", "deal", "pairs", "turn", "value", "one", "other", "number"] ["script"] (defScope s_law) := ⟨rfl, rfl, rfl, by decide +kernel, rfl, by decide +kernel, by decide +kernel⟩
theorem ok_law (T : TX K mg) : DefOk P w K mg base "law" s_law 5 ["script"] 1 w_law := by
  rw [w_law_eq]
  refine T.defD (T.glo 37) 27 rfl sc_law rfl rfl (fun _ _ _ _ _ _ us hl => match us, hl with | [_], _ => rfl) fun cdv A outer s H E hr => ?_
  exact (ds_cons (ds_set (i := 1) sc_law.nd (de_fn (ok_law_deal T) (hr.mono (by decide)) tkF (da_cons (de_var 0) (da_cons de_int da_nil))))
    (ds_cons (ds_set (i := 2) sc_law.nd (de_lst da_nil))
    (ds_cons (ds_for (vs := [3]) poF rfl (di_range1 (T.free 24) de_int) (dg_name sc_law.nd (by decide))
    (ds_cons (ds_par3 (i := 5) (j := 6) (l := 7) sc_law.nd rfl (da_cons (de_fn (ok_law_any_price T) (hr.mono (by decide)) tkF (da_cons (de_var 1) da_nil)) (da_cons (de_fn (ok_law_any_price T) (hr.mono (by decide)) tkF (da_cons (de_var 1) da_nil)) (da_cons (de_fn (ok_law_any_price T) (hr.mono (by decide)) tkF (da_cons (de_var 1) da_nil)) da_nil))))
    (ds_cons (ds_set (i := 2) sc_law.nd (de_add (de_var 2) (de_lst (da_cons (de_tup (da_cons (de_fn (ok_price_plus T) (hr.mono (by decide)) tkF (da_cons (de_var 5) (da_cons (de_var 6) da_nil))) (da_cons (de_fn (ok_law_plus T) (hr.mono (by decide)) tkF (da_cons (de_var 5) (da_cons (de_var 6) da_nil))) da_nil))) (da_cons (de_tup (da_cons (de_fnK0 (ks := ["other", "one"]) (π := [1, 0]) (ok_price_plus T) (hr.mono (by decide)) tkF (fun _ _ _ _ _ _ us ws l1 l2 => match us, ws, l1, l2 with | [], [_, _], _, _ => rfl) rfl (by decide) (dk_cons (de_var 6) (dk_cons (de_var 5) dk_nil))) (da_cons (de_fn (ok_law_plus T) (hr.mono (by decide)) tkF (da_cons (de_var 5) (da_cons (de_var 6) da_nil))) da_nil))) da_nil)))))
    (ds_cons (ds_set (i := 2) sc_law.nd (de_add (de_var 2) (de_lst (da_cons (de_tup (da_cons (de_fn (ok_price_times T) (hr.mono (by decide)) tkF (da_cons (de_var 7) (da_cons (de_var 5) da_nil))) (da_cons (de_fn (ok_law_times T) (hr.mono (by decide)) tkF (da_cons (de_var 7) (da_cons (de_var 5) da_nil))) da_nil))) (da_cons (de_tup (da_cons (de_fnK0 (ks := ["price", "number"]) (π := [1, 0]) (ok_price_times T) (hr.mono (by decide)) tkF (fun _ _ _ _ _ _ us ws l1 l2 => match us, ws, l1, l2 with | [], [_, _], _, _ => rfl) rfl (by decide) (dk_cons (de_var 5) (dk_cons (de_var 7) dk_nil))) (da_cons (de_fn (ok_law_times T) (hr.mono (by decide)) tkF (da_cons (de_var 7) (da_cons (de_var 5) da_nil))) da_nil))) da_nil)))))
    (ds_cons (ds_set (i := 2) sc_law.nd (de_add (de_var 2) (de_lst (da_cons (de_tup (da_cons (de_fn (ok_is_dearer T) (hr.mono (by decide)) tkF (da_cons (de_var 5) (da_cons (de_var 6) da_nil))) (da_cons (de_fn (ok_law_below T) (hr.mono (by decide)) tkF (da_cons (de_var 6) (da_cons (de_var 5) da_nil))) da_nil))) (da_cons (de_tup (da_cons (de_fnK0 (ks := ["other", "one"]) (π := [1, 0]) (ok_is_dearer T) (hr.mono (by decide)) tkF (fun _ _ _ _ _ _ us ws l1 l2 => match us, ws, l1, l2 with | [], [_, _], _, _ => rfl) rfl (by decide) (dk_cons (de_var 5) (dk_cons (de_var 6) dk_nil))) (da_cons (de_fn (ok_law_below T) (hr.mono (by decide)) tkF (da_cons (de_var 5) (da_cons (de_var 6) da_nil))) da_nil))) da_nil)))))
    (ds_cons (ds_set (i := 2) sc_law.nd (de_add (de_var 2) (de_lst (da_cons (de_tup (da_cons (de_fn (ok_is_dearer T) (hr.mono (by decide)) tkF (da_cons (de_var 5) (da_cons (de_var 5) da_nil))) (da_cons de_bl da_nil))) (da_cons (de_tup (da_cons (de_fn (ok_price_text T) (hr.mono (by decide)) tkF (da_cons (de_var 5) da_nil)) (da_cons (de_fn (ok_law_price_text T) (hr.mono (by decide)) tkF (da_cons (de_var 5) da_nil)) da_nil))) (da_cons (de_tup (da_cons (de_fnK0 (ks := ["price"]) (π := [0]) (ok_price_text T) (hr.mono (by decide)) tkF (fun _ _ _ _ _ _ us ws l1 l2 => match us, ws, l1, l2 with | [], [_], _, _ => rfl) rfl (by decide) (dk_cons (de_var 6) dk_nil)) (da_cons (de_fn (ok_law_price_text T) (hr.mono (by decide)) tkF (da_cons (de_var 6) da_nil)) da_nil))) da_nil))))))
    (ds_cons (ds_set (i := 2) sc_law.nd (de_add (de_var 2) (de_lst (da_cons (de_tup (da_cons (de_fn (ok_is_price T) (hr.mono (by decide)) tkF (da_cons (de_var 5) da_nil)) (da_cons de_bl da_nil))) (da_cons (de_tup (da_cons (de_fnK0 (ks := ["value"]) (π := [0]) (ok_is_price T) (hr.mono (by decide)) tkF (fun _ _ _ _ _ _ us ws l1 l2 => match us, ws, l1, l2 with | [], [_], _, _ => rfl) rfl (by decide) (dk_cons (de_var 6) dk_nil)) (da_cons de_bl da_nil))) (da_cons (de_tup (da_cons (de_fn (ok_is_price T) (hr.mono (by decide)) tkF (da_cons (de_callTy call_list_of br_list (T.free 25) PyProof.Rows.boot_list (da_cons (de_var 5) da_nil)) da_nil)) (da_cons de_bl da_nil))) (da_cons (de_tup (da_cons (de_fn (ok_is_price T) (hr.mono (by decide)) tkF (da_cons (de_add (de_var 5) (de_tup (da_cons de_int da_nil))) da_nil)) (da_cons de_bl da_nil))) da_nil)))))))
    (ds_cons (ds_set (i := 2) sc_law.nd (de_add (de_var 2) (de_lst (da_cons (de_tup (da_cons (de_fn (ok_is_price T) (hr.mono (by decide)) tkF (da_cons (de_tup (da_cons (de_mul (de_ix (de_var 5) de_int) de_int) (da_cons (de_mul (de_ix (de_var 5) de_int) de_int) da_nil))) da_nil)) (da_cons de_bl da_nil))) (da_cons (de_tup (da_cons (de_fn (ok_is_price T) (hr.mono (by decide)) tkF (da_cons (de_tup (da_cons (de_sub (de_sub de_int (de_ix (de_var 5) de_int)) de_int) (da_cons de_int da_nil))) da_nil)) (da_cons de_bl da_nil))) da_nil)))))
    (ds_one (ds_set (i := 2) sc_law.nd (de_add (de_var 2) (de_lst (da_cons (de_tup (da_cons (de_fn (ok_is_price T) (hr.mono (by decide)) tkF (da_cons (de_tup (da_cons (de_ix (de_var 5) de_int) (da_cons (de_sub de_int (de_ix (de_var 5) de_int)) da_nil))) da_nil)) (da_cons de_bl da_nil))) (da_cons (de_tup (da_cons (de_fn (ok_is_price T) (hr.mono (by decide)) tkF (da_cons (de_tup (da_cons (de_callTy call_str_int br_str (T.free 18) PyProof.Rows.boot_str (da_cons (de_ix (de_var 5) de_int) da_nil)) (da_cons (de_ix (de_var 5) de_int) da_nil))) da_nil)) (da_cons de_bl da_nil))) da_nil))))))))))))))
    (ds_cons (ds_for (vs := [4]) poF rfl (di_seq (de_lst (da_cons de_non (da_cons de_int (da_cons de_int (da_cons de_bl (da_cons de_str (da_cons (de_tup da_nil) (da_cons (de_tup (da_cons de_int da_nil)) (da_cons (de_tup (da_cons de_int (da_cons de_int da_nil))) (da_cons (de_tup (da_cons de_int (da_cons de_int da_nil))) (da_cons (de_tup (da_cons de_int (da_cons de_int da_nil))) (da_cons (de_tup (da_cons de_bl (da_cons de_int da_nil))) (da_cons (de_tup (da_cons de_int (da_cons de_bl da_nil))) (da_cons (de_tup (da_cons (de_tup (da_cons de_int (da_cons de_int da_nil))) da_nil)) (da_cons (de_tup (da_cons (de_sub de_int de_int) (da_cons de_int da_nil))) (da_cons (de_lst da_nil) (da_cons (de_tup (da_cons de_non (da_cons de_int da_nil))) da_nil)))))))))))))))))) (dg_name sc_law.nd (by decide))
    (ds_one (ds_expr (de_append (de_var 2) (de_tup (da_cons (de_fn (ok_is_price T) (hr.mono (by decide)) tkF (da_cons (de_var 4) da_nil)) (da_cons de_bl da_nil)))))))
    (ds_cons (ds_set (i := 2) sc_law.nd (de_add (de_var 2) (de_lst (da_cons (de_tup (da_cons (de_fn (ok_is_price T) (hr.mono (by decide)) tkF (da_cons (de_tup (da_cons de_int (da_cons de_int da_nil))) da_nil)) (da_cons de_bl da_nil))) (da_cons (de_tup (da_cons (de_fn (ok_price_text T) (hr.mono (by decide)) tkF (da_cons (de_tup (da_cons de_int (da_cons de_int da_nil))) da_nil)) (da_cons de_str da_nil))) (da_cons (de_tup (da_cons (de_fn (ok_price_text T) (hr.mono (by decide)) tkF (da_cons (de_tup (da_cons de_int (da_cons de_int da_nil))) da_nil)) (da_cons de_str da_nil))) (da_cons (de_tup (da_cons (de_fn (ok_price_plus T) (hr.mono (by decide)) tkF (da_cons (de_tup (da_cons de_int (da_cons de_int da_nil))) (da_cons (de_tup (da_cons de_int (da_cons de_int da_nil))) da_nil))) (da_cons (de_tup (da_cons de_int (da_cons de_int da_nil))) da_nil))) da_nil)))))))
    (ds_one (ds_ret (de_fn (ok_law_all T) (hr.mono (by decide)) tkF (da_cons (de_add (de_var 2) (de_lst (da_cons (de_tup (da_cons (de_fn (ok_price_times T) (hr.mono (by decide)) tkF (da_cons (de_tup (da_cons de_int (da_cons de_int da_nil))) (da_cons (de_tup (da_cons de_int (da_cons de_int da_nil))) da_nil))) (da_cons (de_tup (da_cons de_int (da_cons de_int da_nil))) da_nil))) (da_cons (de_tup (da_cons (de_fn (ok_is_dearer T) (hr.mono (by decide)) tkF (da_cons (de_tup (da_cons de_int (da_cons de_int da_nil))) (da_cons (de_tup (da_cons de_int (da_cons de_int da_nil))) da_nil))) (da_cons de_bl da_nil))) (da_cons (de_tup (da_cons (de_fn (ok_is_price T) (hr.mono (by decide)) tkF (da_cons (de_tup (da_cons (de_pow de_int de_int) (da_cons de_int da_nil))) da_nil)) (da_cons de_bl da_nil))) da_nil))))) da_nil)))))))))

end
/-! ### the head -/
abbrev RR : PySem.W.OpenRow := PySem.W.OpenLaw.row PySem.Challenge.rw_cheapathand_k00_prices_are_added_and_tol
def loose0 : List Str := ["is_integer", "is_tuple", "common_divisor", "ratio", "is_fraction", "ratio_plus", "ratio_times", "is_above", "is_price", "price_plus", "price_times", "is_dearer", "price_text", "_law_deal", "_law_any", "_law_of", "_law_is_kind", "_law_same", "_law_all", "_law_divisor", "_law_ratio", "_law_plus", "_law_times", "_law_below", "_law_price", "_law_price_text", "_law_any_price"]
abbrev loose : List Str := loose0
def ob (s : PySem.W.SharedT) : AlX := obsXG 5 fas fns css (HandSHeadRun.getT s)
theorem ob_eq (s : PySem.W.SharedT) : ob s = (hookX 5 fas fns css).obs s.abs := obsXG_eq (HandSHeadRun.getT_eq s)
theorem run (w : World) : HandSHeadRun.RunEq RR (PySem.W.view RR.prog [31]) (hookX 5 fas fns css) ob 20000 loose w := by
  intro os
  kernel_rfl
theorem facts {P : Program} {w : World} {K : PySem.W.Frag} {h : Heap} {mg : Str → Option Value} {f : Addr} (X : K.In h) (G : h.Ns mainGlobals mg) (hfa : mg ("law" : Str) = some (.ref f)) (c : SaysX fas fns css K) :
    ∃ fd : FuncData, (∀ (s : Shared) (v : Value), BindsTo s fd ⟨[v], []⟩ [("script", v)]) ∧ ∀ base : Heap, K.In base → base.Ns mainGlobals mg → FnOk P w K mg base (L2.CX P w) 5 f fd ["script"] (dSp K 1 w_law) := by
  have T : TX K mg := ⟨h, X, G, c⟩
  obtain ⟨fd, F⟩ := c.d.def_ 27 (d := dd_law) rfl
  have e := hfa.symm.trans (T.glo 37)
  cases e
  have b := FunD.bindsA (ps := ["script"]) F fun _ _ _ _ _ _ us hl => match us, hl with | [_], _ => rfl
  exact ⟨fd, fun s v => b s [v] rfl, fun base _ _ => Tx.lawD (ok_law T) F⟩
end K00
namespace K00
open PySem PySem.Spec PyProof.Rows L2 DL
variable {S : Sto} {R : RD} {Rx : RX}
/-- the greatest common divisor -/
abbrev gcdZ (a b : Int) : Int := ((Int.gcd a b : Nat) : Int)
theorem lp_gcd {E : DEnds} {S : Sto} : ∀ (n : Nat) (a b : Int), 0 ≤ a → 0 ≤ b → b.toNat < n → E.nx [some (.int (gcdZ a b)), some (.int 0)] S → whileN c1_common_divisor b1_common_divisor E n [some (.int a), some (.int b)] S
  | 0, _, _, _, _, h, _ => by omega
  | n + 1, a, b, ha, hb, h, k => by
    refine ifB (fun hc => ?_) fun hc => ?_
    · have hb0 : b ≠ 0 := by simpa using hc
      refine ⟨by omega, ?_⟩
      refine lp_gcd n b (a % b) hb (Int.emod_nonneg _ hb0) ?_ ?_
      · have := Int.emod_lt_of_pos a (show 0 < b by omega)
        omega
      · have e : gcdZ b (a % b) = gcdZ a b := congrArg Int.ofNat (gcd_step a b)
        rw [e]
        exact k
    · have hb0 : b = 0 := by simpa using hc
      subst hb0
      have e : gcdZ a 0 = a := by
        show ((Int.gcd a 0 : Nat) : Int) = a
        rw [Int.gcd_zero_right]
        omega
      rw [e] at k
      exact k
theorem sp_gcd {a b : Int} (h : R (.int (gcdZ a b)) S) : Cal w_common_divisor [.int a, .int b] S R Rx := by
  refine .mk ?_
  rw [w_common_divisor_eq]
  refine ⟨_, lp_gcd _ _ _ ?_ ?_ (Nat.lt_succ_self _) ?_⟩
  · split <;> omega
  · split <;> omega
  · have e : gcdZ (if a < 0 then -a else a) (if b < 0 then -b else b) = gcdZ a b := by
      unfold gcdZ
      split <;> split <;> simp
    rw [e]
    exact h
/-- the fraction of two numbers, in lowest terms -/
def frac (t b : Int) : Int × Int := if b < 0 then ((-t) / gcdZ t b, (-b) / gcdZ t b) else (t / gcdZ t b, b / gcdZ t b)
abbrev qD (q : Int × Int) : D := .tup [.int q.1, .int q.2]
theorem gcd_pos {a b : Int} (hb : b ≠ 0) : 0 < gcdZ a b := by
  have : 0 < Int.gcd a b := Int.gcd_pos_of_ne_zero_right a hb
  show (0 : Int) < ((Int.gcd a b : Nat) : Int)
  omega
theorem gcd_small {a b : Int} {n : Nat} (hb : b ≠ 0) (h : b.natAbs < 2 ^ n) : (gcdZ a b).natAbs < 2 ^ n := by
  refine Nat.lt_of_le_of_lt ?_ h
  show (((Int.gcd a b : Nat) : Int)).natAbs ≤ b.natAbs
  rw [Int.natAbs_natCast]
  exact Nat.le_of_dvd (by omega) (Int.gcd_dvd_natAbs_right a b)
theorem gcdZ_neg (a b : Int) : gcdZ (-a) (-b) = gcdZ a b := by unfold gcdZ; simp
theorem sp_ratio {a b : Int} (hb : b ≠ 0) (hs : b.natAbs < 2 ^ 8000) (h : R (qD (frac a b)) S) : Cal w_ratio [.int a, .int b] S R Rx := by
  refine .mk ?_
  rw [w_ratio_eq]
  have g0 := gcd_pos (a := a) hb
  have gl : (gcdZ a b).natAbs.log2 < 9000 := log2_lt (gcd_small hb hs) (by decide) (by decide)
  refine ifB (fun hc => ?_) fun hc => ?_
  · have hb0 : b < 0 := by simpa using hc
    refine sp_gcd ?_
    rw [gcdZ_neg]
    refine ⟨⟨g0, gl⟩, ⟨g0, gl⟩, by show 2 ≤ sizeLine; decide, ?_⟩
    unfold frac at h
    rw [if_pos hb0] at h
    exact h
  · have hb0 : ¬ b < 0 := by simpa using hc
    refine sp_gcd ⟨⟨g0, gl⟩, ⟨g0, gl⟩, by show 2 ≤ sizeLine; decide, ?_⟩
    unfold frac at h
    rw [if_neg hb0] at h
    exact h
theorem lp_div {E : DEnds} {S : Sto} : ∀ (n : Nat) (a b : Int), 0 ≤ a → 0 ≤ b → b.toNat < n → E.nx [some (.int (gcdZ a b)), some (.int 0)] S → whileN c1_law_divisor b1_law_divisor E n [some (.int a), some (.int b)] S
  | 0, _, _, _, _, h, _ => by omega
  | n + 1, a, b, ha, hb, h, k => by
    refine ifB (fun hc => ?_) fun hc => ?_
    · have hb0 : b ≠ 0 := by simpa using hc
      refine ⟨by omega, ?_⟩
      refine lp_div n b (a % b) hb (Int.emod_nonneg _ hb0) ?_ ?_
      · have := Int.emod_lt_of_pos a (show 0 < b by omega)
        omega
      · have e : gcdZ b (a % b) = gcdZ a b := congrArg Int.ofNat (gcd_step a b)
        rw [e]
        exact k
    · have hb0 : b = 0 := by simpa using hc
      subst hb0
      have e : gcdZ a 0 = a := by
        show ((Int.gcd a 0 : Nat) : Int) = a
        rw [Int.gcd_zero_right]
        omega
      rw [e] at k
      exact k
theorem sp_div {a b : Int} (ha : 0 ≤ a) (hb : 0 ≤ b) (h : R (.int (gcdZ a b)) S) : Cal w_law_divisor [.int a, .int b] S R Rx := by
  refine .mk ?_
  rw [w_law_divisor_eq]
  exact ⟨_, lp_div _ _ _ ha hb (Nat.lt_succ_self _) h⟩
theorem sp_lratio {a b : Int} (hb : b ≠ 0) (hs : b.natAbs < 2 ^ 8000) (h : R (qD (frac a b)) S) : Cal w_law_ratio [.int a, .int b] S R Rx := by
  refine .mk ?_
  rw [w_law_ratio_eq]
  have g0 := gcd_pos (a := a) hb
  have gl : (gcdZ a b).natAbs.log2 < 9000 := log2_lt (gcd_small hb hs) (by decide) (by decide)
  have gabs : ∀ x y : Int, gcdZ (if x < 0 then -x else x) y = gcdZ x y := fun x y => by
    unfold gcdZ
    split <;> simp
  refine ifB (fun hc => ?_) fun hc => ?_
  · have hb0 : b < 0 := by simpa using hc
    refine sp_div (by split <;> omega) (by omega) ?_
    rw [gabs, Int.zero_sub, Int.zero_sub, gcdZ_neg]
    refine ⟨⟨g0, gl⟩, ⟨g0, gl⟩, by show 2 ≤ sizeLine; decide, ?_⟩
    unfold frac at h
    rw [if_pos hb0] at h
    exact h
  · have hb0 : ¬ b < 0 := by simpa using hc
    refine sp_div (by split <;> omega) (by omega) ?_
    rw [gabs]
    refine ⟨⟨g0, gl⟩, ⟨g0, gl⟩, by show 2 ≤ sizeLine; decide, ?_⟩
    unfold frac at h
    rw [if_neg hb0] at h
    exact h
/-! ### draws -/
/-- a deal stands at n, its cells at m -/
structure Deal (n m : Nat) (S : Sto) : Prop where
  ne : n ≠ m
  ex : ∃ (cs : List Int) (mix : Int), S[n]? = some (.lst [D.ref m, D.int mix]) ∧ S[m]? = some (.lst (cs.map D.int)) ∧ cs.length ≤ 63 ∧ 0 ≤ mix ∧ mix < 2147483647
theorem Deal.frm0 {n m : Nat} {S S' : Sto} (d : Deal n m S) (f : Frm [] S S') : Deal n m S' := by
  obtain ⟨ne, cs, mix, h1, h2, h3⟩ := d
  exact ⟨ne, cs, mix, f.get0 h1, f.get0 h2, h3⟩
theorem Deal.lt {n m : Nat} {S : Sto} (d : Deal n m S) : n < S.length ∧ m < S.length := by
  obtain ⟨ne, cs, mix, h1, h2, h3⟩ := d
  exact ⟨lt_of_get h1, lt_of_get h2⟩
theorem lp_any {E : DEnds} {n m : Nat} {b mix : Int} {r0 : Option D} (ne : n ≠ m) : ∀ (k : Nat) (cs : List Int) (S : Sto), cs.length < k → S[n]? = some (.lst [D.ref m, D.int mix]) → S[m]? = some (.lst (cs.map D.int)) →
    (∀ (cs' : List Int) (S' : Sto), cs'.length ≤ cs.length → Frm [n, m] S S' → S'[n]? = some (.lst [D.ref m, D.int mix]) → S'[m]? = some (.lst (cs'.map D.int)) → E.nx [some (.ref n), some (.int b), r0] S') → whileN c1_law_any b1_law_any E k [some (.ref n), some (.int b), r0] S
  | 0, _, _, h, _, _, _ => by omega
  | k + 1, cs, S, hk, hn, hm, kk => by
    refine lst_at hn (ix_at rfl (lst_at hm (ifB (fun h1 => ?_) fun h1 => ?_)))
    · have hne : cs ≠ [] := by
        intro z
        subst z
        simp at h1
      obtain ⟨r, z, rfl⟩ := snoc_of hne
      have em : (r ++ [z]).map D.int = r.map D.int ++ [D.int z] := by simp
      rw [em] at hm
      have hl : (r ++ [z]).length = r.length + 1 := by simp
      refine lst_at hn (ix_at rfl (lst_at hm (ix_at (atI_last _ _) (ifB (fun h2 => ?_) fun h2 => ?_))))
      · refine lst_at hn (ix_at rfl (mlst_at hm (pop_snoc ?_)))
        show whileN c1_law_any b1_law_any E k [some (.ref n), some (.int b), r0] (S.set m (.lst (r.map D.int ++ [D.int z]).dropLast))
        rw [List.dropLast_concat]
        have lm := lt_of_get hm
        refine lp_any ne k r _ (by omega) (by rw [List.getElem?_set_ne (Ne.symm ne)]; exact hn) (by rw [List.getElem?_set_self lm]) fun cs' S' l f g1 g2 => kk cs' S' (by omega) ((Frm.set (by simp)).trans f) g1 g2
      · exact kk (r ++ [z]) S (Nat.le_refl _) Frm.refl hn (by rw [em]; exact hm)
    · exact ifF rfl (kk cs S (Nat.le_refl _) Frm.refl hn hm)
theorem sp_any {n m : Nat} {b : Int} (d : Deal n m S) (hb : 0 < b) (hs : b.natAbs < 2 ^ 8000) (k : ∀ r S', 0 ≤ r → r < b → Frm [n, m] S S' → Deal n m S' → R (.int r) S') : Cal w_law_any [.ref n, .int b] S R Rx := by
  obtain ⟨ne, cs, mix, hn, hm, hl, m0, m1⟩ := d
  refine .mk ?_
  rw [w_law_any_eq]
  refine ⟨cs.length + 1, lp_any (r0 := none) ne _ cs S (Nat.lt_succ_self _) hn hm fun cs' S' l f g1 g2 => ?_⟩
  have bl : b.natAbs.log2 < 9000 := log2_lt hs (by decide) (by decide)
  refine lst_at g1 (ix_at rfl (lst_at g2 (ifB (fun h1 => ?_) fun h1 => ?_)))
  · have hne : cs' ≠ [] := by
      intro z
      subst z
      simp at h1
    obtain ⟨r, z, rfl⟩ := snoc_of hne
    have em : (r ++ [z]).map D.int = r.map D.int ++ [D.int z] := by simp
    rw [em] at g2
    have lm := lt_of_get g2
    have ll : (r ++ [z]).length = r.length + 1 := by simp
    have e1 : (S'.set m (.lst (r.map D.int ++ [D.int z]).dropLast))[n]? = some (.lst [D.ref m, D.int mix]) := by rw [List.getElem?_set_ne (Ne.symm ne)]; exact g1
    have e2 : (S'.set m (.lst (r.map D.int ++ [D.int z]).dropLast))[m]? = some (.lst (r.map D.int)) := by rw [List.getElem?_set_self lm, List.dropLast_concat]
    refine lst_at g1 (ix_at rfl (mlst_at g2 (pop_snoc (lst_at e1 (ix_at rfl ⟨mlst_at e2 trivial, ⟨hb, bl⟩, mlst_at e2 ⟨?_, hb, ?_⟩⟩)))))
    · rw [List.length_map]
      exact small1000 (by omega)
    · refine k _ _ (Int.emod_nonneg _ (by omega)) (Int.emod_lt_of_pos _ hb) (f.trans ((Frm.set (by simp)).trans (Frm.set (by simp)))) ⟨ne, r ++ [z / b], mix, ?_, ?_, ?_, m0, m1⟩
      · rw [List.getElem?_set_ne (Ne.symm ne)]; exact e1
      · rw [List.getElem?_set_self (by simpa using lm)]; simp
      · simp; omega
  · have ln := lt_of_get g1
    refine lst_at g1 (ix_at rfl ⟨room (n := 31) (m := 16) ?_ (by decide) (by decide) (by decide) (by decide), ?_⟩)
    · show mix.natAbs < 2 ^ 31
      omega
    · refine ⟨by decide, mlst_at g1 ?_⟩
      have em : S'.set n (.lst ([D.ref m, D.int mix].set 1 (.int ((mix * 48271 + 31) % 2147483647)))) = S'.set n (.lst [.ref m, .int ((mix * 48271 + 31) % 2147483647)]) := rfl
      have e1 : (S'.set n (.lst [.ref m, .int ((mix * 48271 + 31) % 2147483647)]))[n]? = some (.lst [.ref m, .int ((mix * 48271 + 31) % 2147483647)]) := by rw [List.getElem?_set_self ln]
      have e2 : (S'.set n (.lst [.ref m, .int ((mix * 48271 + 31) % 2147483647)]))[m]? = some (.lst (cs'.map D.int)) := by rw [List.getElem?_set_ne ne]; exact g2
      refine lst_at e1 (ix_at rfl ⟨⟨by decide, by decide⟩, hb, ?_⟩)
      exact k _ _ (Int.emod_nonneg _ (by omega)) (Int.emod_lt_of_pos _ hb) (f.trans (Frm.set (by simp))) ⟨ne, cs', _, e1, e2, by omega, Int.emod_nonneg _ (by decide), Int.emod_lt_of_pos _ (by decide)⟩
/-! ### the judge of told and due -/
def Sc : D → Prop
  | .tup _ => False
  | .ref _ => False
  | _ => True
theorem sp_kind {d : D} (hd : Sc d) (h : R (.bl true) S) : Cal w_law_is_kind [d, d] S R Rx := by
  refine .mk ?_
  rw [w_law_is_kind_eq]
  cases d with
  | non => exact ifT rfl h
  | bl b =>
    cases b
    · exact ifF rfl (ifF rfl (ifT rfl (ifF rfl h)))
    · exact ifF rfl (ifT rfl (ifT rfl (ifT rfl h)))
  | int i =>
    have g : R (.bl (decide (i = i))) S := by simpa using h
    exact ifF rfl (ifF rfl (ifF rfl (ifF rfl (ifT rfl (ifT rfl g)))))
  | str x =>
    have g : R (.bl (decide (x = x))) S := by simpa using h
    exact ifF rfl (ifF rfl (ifF rfl (ifT rfl (ifT rfl g))))
  | tup xs => exact hd.elim
  | ref n => exact hd.elim
theorem lf_same {E : DEnds} {told due : Option D} {p : Nat} {ys : List D} (hy : ys.length ≤ 100000) : ∀ (k i : Nat) (r5 : Option D) (acc : List D) (S : Sto), i + k = ys.length → S[p]? = some (.lst (acc.map pr)) → acc.length + k ≤ 100000 →
    (∀ r5 S', Frm [p] S S' → S'[p]? = some (.lst ((acc ++ ys.drop i).map pr)) → E.nx [told, due, some (.ref p), some (.tup ys), some (.tup ys), r5] S') →
    forW noG (gNm 5) f1_law_same E ((List.range' i k).map fun (j : Nat) => D.int (0 + (j : Int))) [told, due, some (.ref p), some (.tup ys), some (.tup ys), r5] S
  | 0, i, r5, acc, S, hk, hp, hl, kk => by
    refine ⟨trivial, kk _ _ .refl ?_⟩
    rw [List.drop_of_length_le (by omega), List.append_nil]
    exact hp
  | k + 1, i, r5, acc, S, hk, hp, hl, kk => by
    have hi : i < ys.length := by omega
    have hg : atI ys (0 + (i : Int)) = some ys[i] := by
      rw [Int.zero_add]
      exact atI_nat (by simp [hi])
    refine ⟨trivial, mlst_at hp trivial, ?_⟩
    refine ix_at hg (ix_at hg ⟨sz (show 2 ≤ 1000 by decide), mlst_at hp ⟨?_, ?_⟩⟩)
    · have : 100000 < sizeLine := by decide
      simp
      omega
    · have lp := lt_of_get hp
      refine lf_same hy k (i + 1) _ (acc ++ [ys[i]]) _ (by omega) (by rw [List.getElem?_set_self lp]; simp) (by simp; omega) fun r5 S' f g => kk r5 S' ((Frm.set (by simp)).trans f) ?_
      rw [g, List.append_assoc, List.singleton_append, List.getElem_cons_drop]
theorem st_same {E : DEnds} {told due : Option D} {p k : Nat} {r : List D} {d : D} {S : Sto} {r3 r4 r5 : Option D} (pd : Pl d) (pl : Pls r) (hp : S[p]? = some (.lst ((r ++ [d]).map pr))) (hw : wts r + wt d ≤ 100000)
    (ih : ∀ (ds : List D) (S' : Sto) (r3 r4 r5 : Option D), wts ds < wts r + wt d → Pls ds → S'[p]? = some (.lst (ds.map pr)) → Frm [p] S S' → whileN c1_law_same b1_law_same E k [told, due, some (.ref p), r3, r4, r5] S') :
    whileN c1_law_same b1_law_same E (k + 1) [told, due, some (.ref p), r3, r4, r5] S := by
  have lp := lt_of_get hp
  have em : (r ++ [d]).map pr = r.map pr ++ [pr d] := by simp
  rw [em] at hp
  refine lst_at hp (ifT (by simp) ?_)
  have w0 := wt_pos d
  have hp' : (S.set p (.lst (r.map pr ++ [pr d]).dropLast))[p]? = some (.lst (r.map pr)) := by rw [List.getElem?_set_self lp, List.dropLast_concat]
  have f0 : Frm [p] S (S.set p (.lst (r.map pr ++ [pr d]).dropLast)) := .set (by simp)
  refine mlst_at hp (pop_snoc ⟨rfl, ?_⟩)
  have nx : whileN c1_law_same b1_law_same E k [told, due, some (.ref p), some d, some d, r5] (S.set p (.lst (r.map pr ++ [pr d]).dropLast)) :=
    ih r _ _ _ _ (by omega) pl hp' f0
  cases d with
  | non => refine ifF rfl (ifF rfl (sp_kind (d := .non) trivial ?_)); exact ifF rfl nx
  | bl b => refine ifF rfl (ifF rfl (sp_kind (d := .bl b) trivial ?_)); exact ifF rfl nx
  | int i => refine ifF rfl (ifF rfl (sp_kind (d := .int i) trivial ?_)); exact ifF rfl nx
  | str x => refine ifF rfl (ifF rfl (sp_kind (d := .str x) trivial ?_)); exact ifF rfl nx
  | ref n => exact (pl_ref pd).elim
  | tup xs =>
    rw [wt] at hw
    have lx := wts_len xs
    have eq : (!decide ((xs.length : Int) = (xs.length : Int))) = false := by simp
    refine ifT rfl ?_
    refine ifF rfl ?_
    refine ifF eq ?_
    refine ⟨⟨by omega, by omega⟩, ?_⟩
    have er : rangeD 0 ((xs.length : Int)).toNat = (List.range' 0 xs.length).map fun (j : Nat) => D.int (0 + (j : Int)) := by rw [Int.toNat_natCast, rangeD, List.range_eq_range']
    rw [er]
    have lr := wts_len r
    refine lf_same (by omega) xs.length 0 _ r _ (by omega) hp' (by omega) fun r5 S' f g => ?_
    rw [List.drop_zero] at g
    exact ih (r ++ xs) _ _ _ _ (by rw [wts_app, wt]; omega) (pls_app.mpr ⟨pl, pl_tup.mp pd⟩) g (f0.trans f)
theorem lp_same {E : DEnds} {told due : Option D} {p : Nat} : ∀ (k : Nat) (ds : List D) (S : Sto) (r3 r4 r5 : Option D), wts ds < k → Pls ds → S[p]? = some (.lst (ds.map pr)) → wts ds ≤ 100000 →
    (∀ (ρ : Ev) (S' : Sto), Frm [p] S S' → E.nx ρ S') → whileN c1_law_same b1_law_same E k [told, due, some (.ref p), r3, r4, r5] S := by
  intro k
  induction k with
  | zero => intro ds S r3 r4 r5 h; omega
  | succ k ih =>
    intro ds S r3 r4 r5 hk hpl hp hw kk
    by_cases hne : ds = []
    · subst hne
      exact lst_at hp (ifF rfl (kk _ _ .refl))
    obtain ⟨r, d, rfl⟩ := snoc_of hne
    rw [wts_app] at hk hw
    rw [pls_app] at hpl
    obtain ⟨pl, pd⟩ := hpl
    rw [pls_one] at pd
    have wd : wts [d] = wt d := wt_one
    rw [wd] at hk hw
    exact st_same pd pl hp hw fun ds' S' r3 r4 r5 hl hpl' hp' f => ih ds' S' r3 r4 r5 (by omega) hpl' hp' (by omega) fun ρ S'' f' => kk ρ S'' (f.trans f')
theorem sp_same {d : D} (pd : Pl d) (hw : wt d ≤ 100000) (h : ∀ S', Frm [] S S' → R (.bl true) S') : Cal w_law_same [d, d] S R Rx := by
  refine .mk ?_
  rw [w_law_same_eq]
  refine ⟨sz (show 2 ≤ 1000 by decide), sz (show 1 ≤ 1000 by decide), ?_⟩
  refine ⟨wt d + 1, lp_same (p := S.length) (wt d + 1) [d] _ none none none (by rw [wt_one]; omega) (pls_one.mpr pd) get_last (by rw [wt_one]; exact hw) fun ρ S' f => h S' ⟨?_, fun i hi _ => ?_⟩⟩
  · have := f.len
    simp at this
    omega
  · rw [f.at_ i (by simp; omega) (by simp; omega)]
    exact (Frm.app (W := []) _).at_ i hi (by simp)
/-! ### the deal of a script -/
theorem cut_map (ns : List Int) (k : Nat) : DL.cutD (ns.map D.int) none (some (k : Int)) = (ns.take k).map D.int := by
  unfold DL.cutD
  rw [HT.sIx_none, HT.sIx_nat, List.drop_zero, Nat.sub_zero, List.length_map, ← List.map_take]
  congr 1
  rw [List.take_eq_take_iff]
  omega
theorem lc1_deal {p n : Nat} {xs0 : List D} {a b : Option D} {M : Int} {Rq : Sto → Prop} (hM : 0 < M) (hne : p ≠ n) : ∀ (xs acc : List Int) (S : Sto), acc.length + xs.length ≤ 1000 → S[p]? = some (.lst xs0) → S[n]? = some (.lst (acc.map D.int)) →
    (∀ (cs : List Int) (S' : Sto), cs.length ≤ acc.length + xs.length → S'[n]? = some (.lst (cs.map D.int)) → Frm [n] S S' → Rq S') →
    lcW n (fun S => S[p]? = some (.lst xs0)) (gNm 5) tYesD v1_law_deal [a, b, some (.int M), none, none, none] Rq (xs.map D.int) S
  | [], acc, S, hl, hp, hn, k => ⟨hp, k acc S (by simp) hn .refl⟩
  | x :: xs, acc, S, hl, hp, hn, k => by
    have ln := lt_of_get hn
    simp only [List.length_cons] at hl
    refine ⟨hp, ifT rfl ⟨hM, mlst_at hn ⟨?_, ?_⟩⟩⟩
    · rw [List.length_map]
      exact small1000 (by omega)
    · refine lc1_deal hM hne xs (acc ++ [_]) _ (by simp; omega) (by rw [List.getElem?_set_ne (Ne.symm hne)]; exact hp) (by rw [List.getElem?_set_self ln, List.map_append]; rfl) fun cs S' h1 h2 h3 => k cs S' (by simp at *; omega) h2 ((Frm.set (by simp)).trans h3)
theorem lf_deal {p : Nat} {xs0 : List D} {a b M c3 : Option D} {E : DEnds} {S : Sto} (hp : S[p]? = some (.lst xs0)) : ∀ (xs : List Int) (mix : Int) (r5 : Option D), 0 ≤ mix → mix < 2 ^ 62 →
    (∀ (mix' : Int) r5, 0 ≤ mix' → mix' < 2 ^ 62 → (xs ≠ [] → mix' < 2147483647) → (xs = [] → mix' = mix) → E.nx [a, b, M, c3, some (.int mix'), r5] S) → forW (fun S => S[p]? = some (.lst xs0)) (gNm 5) f1_law_deal E (xs.map D.int) [a, b, M, c3, some (.int mix), r5] S
  | [], mix, r5, h0, h1, k => ⟨hp, k mix r5 h0 h1 (by simp) (by simp)⟩
  | x :: xs, mix, r5, h0, h1, k => by
    refine ⟨hp, ⟨room (n := 62) (m := 20) ?_ (by decide) (by decide) (by decide) (by decide), by decide, ?_⟩⟩
    · omega
    refine ⟨by decide, ?_⟩
    have p0 := Int.emod_nonneg (mix * 69621 + x % 2147483563 + 23) (show (2147483647 : Int) ≠ 0 by decide)
    have p1 := Int.emod_lt_of_pos (mix * 69621 + x % 2147483563 + 23) (show (0 : Int) < 2147483647 by decide)
    refine lf_deal hp xs _ _ p0 (by omega) fun mix' r5 g0 g1 g2 g3 => k mix' r5 g0 g1 (fun _ => ?_) (by simp)
    by_cases hx : xs = []
    · rw [g3 hx]; exact p1
    · exact g2 hx
theorem lc2_deal {p n : Nat} {xs0 : List D} {a b c d e : Option D} {Rq : Sto → Prop} (hne : p ≠ n) : ∀ (xs acc : List Int) (S : Sto), acc.length + xs.length ≤ 1000 → S[p]? = some (.lst xs0) → S[n]? = some (.lst (acc.map D.int)) →
    (∀ (cs : List Int) (S' : Sto), cs.length ≤ acc.length + xs.length → S'[n]? = some (.lst (cs.map D.int)) → Frm [n] S S' → Rq S') →
    lcW n (fun S => S[p]? = some (.lst xs0)) (gNm 5) q1_law_deal v2_law_deal [a, b, c, d, e, none] Rq (xs.map D.int) S
  | [], acc, S, hl, hp, hn, k => ⟨hp, k acc S (by simp) hn .refl⟩
  | x :: xs, acc, S, hl, hp, hn, k => by
    have ln := lt_of_get hn
    simp only [List.length_cons] at hl
    refine ⟨hp, ⟨by decide, ifB (fun _ => ?_) fun _ => lc2_deal hne xs acc S (by omega) hp hn fun cs S' h1 h2 h3 => k cs S' (by simp; omega) h2 h3⟩⟩
    refine mlst_at hn ⟨?_, ?_⟩
    · rw [List.length_map]
      exact small1000 (by omega)
    · refine lc2_deal hne xs (acc ++ [x]) _ (by simp; omega) (by rw [List.getElem?_set_ne (Ne.symm hne)]; exact hp) (by rw [List.getElem?_set_self ln, List.map_append]; rfl) fun cs S' h1 h2 h3 => k cs S' (by simp at *; omega) h2 ((Frm.set (by simp)).trans h3)
theorem sp_deal {ns : List Int} {salt : Int} (h0 : 0 ≤ salt) (h1 : salt < 100000) {q : Nat} (hq : S[q]? = some (.fix (ns.map D.int))) (k : ∀ n m S', S.length ≤ n → S.length ≤ m → Frm [] S S' → Deal n m S' → R (.ref n) S') : Cal w_law_deal [.ref q, .int salt] S R Rx := by
  refine .mk ?_
  rw [w_law_deal_eq]
  refine ⟨by decide, ⟨by decide, ⟨by decide +kernel, ⟨by decide, ⟨by decide +kernel, ⟨by decide, ⟨by decide +kernel, ⟨by decide, ⟨by decide +kernel, ⟨by decide, ⟨by decide +kernel, ?_⟩⟩⟩⟩⟩⟩⟩⟩⟩⟩⟩
  generalize hM : (10 : Int) ^ Int.toNat 64 * 10 ^ Int.toNat 64 * 10 ^ Int.toNat 64 * 10 ^ Int.toNat 64 * 10 ^ Int.toNat 64 * 10 ^ Int.toNat 64 = M
  have M0 : 0 < M := by rw [← hM]; decide +kernel
  clear hM
  refine fix_at hq ?_
  have ec : DL.cutD (ns.map D.int) none (some 63) = (ns.take 63).map D.int := cut_map ns 63
  rw [ec]
  have hl : (ns.take 63).length ≤ 63 := by simp; omega
  have g1 : (S ++ [Ob.lst ((ns.take 63).map D.int)])[S.length]? = some (.lst ((ns.take 63).map D.int)) := get_last
  refine iter_at g1 ?_
  have lenS1 : (S ++ [Ob.lst ((ns.take 63).map D.int)]).length = S.length + 1 := by simp
  have g2 : (S ++ [Ob.lst ((ns.take 63).map D.int)] ++ [Ob.lst []])[S.length]? = some (.lst ((ns.take 63).map D.int)) := (Frm.app (W := []) _).get0 g1
  refine lc1_deal M0 (by simp) (ns.take 63) [] _ (by simp; omega) g2 get_last fun cs S2 hc h2 f2 => ?_
  simp only [List.length_nil, Nat.zero_add] at hc
  rw [lenS1] at h2 f2 ⊢
  have F0 : Frm [] S S2 := by
    refine ⟨?_, fun i hi _ => ?_⟩
    · have := f2.len
      simp at this
      omega
    · rw [f2.at_ i (by simp; omega) (by simp; omega), List.getElem?_append_left (by simp; omega), List.getElem?_append_left hi]
  refine ⟨room (a := 7919) (b := salt) (n := 13) (m := 20) (by decide) (by omega) (by decide) (by decide) (by decide), ?_⟩
  refine iter_at h2 ?_
  refine lf_deal h2 cs _ _ (by omega) (by omega) fun mix' r5 m0 m1 m2 m3 => ?_
  refine iter_at h2 ?_
  have l2 := lt_of_get h2
  have g3 : (S2 ++ [Ob.lst []])[S.length + 1]? = some (.lst (cs.map D.int)) := (Frm.app (W := []) _).get0 h2
  refine lc2_deal (by omega) cs [] _ (by simp; omega) g3 get_last fun ds S3 hd h3 f3 => ?_
  simp only [List.length_nil, Nat.zero_add] at hd
  refine lst_at h3 ?_
  refine ⟨sz (show 2 ≤ 1000 by decide), ?_⟩
  have F1 : Frm [] S2 S3 := by
    refine ⟨?_, fun i hi _ => ?_⟩
    · have := f3.len
      simp at this
      omega
    · rw [f3.at_ i (by simp; omega) (by simp; omega), List.getElem?_append_left hi]
  have l0 := F0.len
  have l1 := F1.len
  refine k _ S3.length _ (by simp; omega) (by omega) ((F0.trans F1).trans ((Frm.app _).trans (Frm.app _))) ⟨by simp, ds.reverse, mix', get_last, ?_, by simp; omega, m0, ?_⟩
  · rw [List.getElem?_append_left (by simp), List.map_reverse]
    exact get_last
  · by_cases hx : cs = []
    · rw [m3 hx]; omega
    · exact m2 hx
theorem lt8 {a : Nat} (h : a < 2 ^ 20) : a < 2 ^ 8000 := Nat.lt_trans h (Nat.pow_lt_pow_right (by decide) (by decide))
theorem lt2 {a : Nat} (h : a < 2 ^ 20) : a < 2 ^ 2000 := Nat.lt_trans h (Nat.pow_lt_pow_right (by decide) (by decide))
theorem sp_of {n m q : Nat} {xs : List D} (d : Deal n m S) (hq : S[q]? = some (.lst xs)) (hn : q ∉ [n, m]) (h0 : 0 < xs.length) (h1 : xs.length ≤ 1000) (k : ∀ d S', d ∈ xs → Frm [n, m] S S' → Deal n m S' → R d S') : Cal w_law_of [.ref n, .ref q] S R Rx := by
  refine .mk ?_
  rw [w_law_of_eq]
  refine lst_at hq (sp_any d (by omega) (lt8 (by omega)) fun r S' r0 r1 f d' => ?_)
  have hq' := f.get hq hn
  obtain ⟨j, rfl⟩ : ∃ j : Nat, r = (j : Int) := ⟨r.toNat, by omega⟩
  have hl : j < xs.length := by omega
  exact lst_at hq' (ix_at (d := xs[j]) (atI_nat (by simp [hl])) (k _ S' (List.getElem_mem hl) f d'))
/-- a fraction of numbers that are not too wide -/
structure Qs (q : Int × Int) : Prop where
  t : q.1.natAbs < 2 ^ 2000
  b : q.2.natAbs < 2 ^ 2000
  n : q.2 ≠ 0
theorem mul_small {a b : Int} {n m : Nat} (ha : a.natAbs < 2 ^ n) (hb : b.natAbs < 2 ^ m) : (a * b).natAbs < 2 ^ (n + m) := by
  rw [Int.natAbs_mul, Nat.pow_add]
  exact Nat.mul_lt_mul'' ha hb
theorem mul8 {a b : Int} (ha : a.natAbs < 2 ^ 2000) (hb : b.natAbs < 2 ^ 2000) : (a * b).natAbs < 2 ^ 8000 := Nat.lt_trans (mul_small ha hb) (Nat.pow_lt_pow_right (by decide) (by decide))
theorem rm {a b : Int} (ha : a.natAbs < 2 ^ 2000) (hb : b.natAbs < 2 ^ 2000) : a.natAbs.log2 + b.natAbs.log2 < 1000000 := room ha hb (by decide) (by decide) (by decide)
abbrev qAdd (a b : Int × Int) : Int × Int := frac (a.1 * b.2 + b.1 * a.2) (a.2 * b.2)
abbrev qMul (a b : Int × Int) : Int × Int := frac (a.1 * b.1) (a.2 * b.2)
theorem sp_ratio_plus {a b : Int × Int} (ha : Qs a) (hb : Qs b) (h : R (qD (qAdd a b)) S) : Cal w_ratio_plus [qD a, qD b] S R Rx := by
  refine .mk ?_
  rw [w_ratio_plus_eq]
  exact ix_at rfl (ix_at rfl ⟨rm ha.t hb.b, ix_at rfl (ix_at rfl ⟨rm hb.t ha.b, ix_at rfl (ix_at rfl ⟨rm ha.b hb.b, sp_ratio (Int.mul_ne_zero ha.n hb.n) (mul8 ha.b hb.b) h⟩)⟩)⟩)
theorem sp_ratio_times {a b : Int × Int} (ha : Qs a) (hb : Qs b) (h : R (qD (qMul a b)) S) : Cal w_ratio_times [qD a, qD b] S R Rx := by
  refine .mk ?_
  rw [w_ratio_times_eq]
  exact ix_at rfl (ix_at rfl ⟨rm ha.t hb.t, ix_at rfl (ix_at rfl ⟨rm ha.b hb.b, sp_ratio (Int.mul_ne_zero ha.n hb.n) (mul8 ha.b hb.b) h⟩)⟩)
theorem sp_is_above {a b : Int × Int} (ha : Qs a) (hb : Qs b) (h : R (.bl (decide (a.1 * b.2 > b.1 * a.2))) S) : Cal w_is_above [qD a, qD b] S R Rx := by
  refine .mk ?_
  rw [w_is_above_eq]
  exact ix_at rfl (ix_at rfl ⟨rm ha.t hb.b, ix_at rfl (ix_at rfl ⟨rm hb.t ha.b, h⟩)⟩)
theorem sp_lplus {a b : Int × Int} (ha : Qs a) (hb : Qs b) (h : R (qD (qAdd a b)) S) : Cal w_law_plus [qD a, qD b] S R Rx := by
  refine .mk ?_
  rw [w_law_plus_eq]
  exact ix_at rfl (ix_at rfl ⟨rm ha.t hb.b, ix_at rfl (ix_at rfl ⟨rm hb.t ha.b, ix_at rfl (ix_at rfl ⟨rm ha.b hb.b, sp_lratio (Int.mul_ne_zero ha.n hb.n) (mul8 ha.b hb.b) h⟩)⟩)⟩)
theorem sp_ltimes {a b : Int × Int} (ha : Qs a) (hb : Qs b) (h : R (qD (qMul a b)) S) : Cal w_law_times [qD a, qD b] S R Rx := by
  refine .mk ?_
  rw [w_law_times_eq]
  exact ix_at rfl (ix_at rfl ⟨rm ha.t hb.t, ix_at rfl (ix_at rfl ⟨rm ha.b hb.b, sp_lratio (Int.mul_ne_zero ha.n hb.n) (mul8 ha.b hb.b) h⟩)⟩)
theorem sp_lbelow {a b : Int × Int} (ha : Qs a) (hb : Qs b) (h : R (.bl (decide (a.1 * b.2 < b.1 * a.2))) S) : Cal w_law_below [qD a, qD b] S R Rx := by
  refine .mk ?_
  rw [w_law_below_eq]
  exact ix_at rfl (ix_at rfl ⟨rm ha.t hb.b, ix_at rfl (ix_at rfl ⟨rm hb.t ha.b, h⟩)⟩)
theorem sp_price_plus {a b : Int × Int} (ha : Qs a) (hb : Qs b) (h : R (qD (qAdd a b)) S) : Cal w_price_plus [qD a, qD b] S R Rx := by
  refine .mk ?_
  rw [w_price_plus_eq]
  exact sp_ratio_plus ha hb h
theorem sp_price_times {a b : Int × Int} (ha : Qs a) (hb : Qs b) (h : R (qD (qMul a b)) S) : Cal w_price_times [qD a, qD b] S R Rx := by
  refine .mk ?_
  rw [w_price_times_eq]
  exact sp_ratio_times ha hb h
theorem sp_is_dearer {a b : Int × Int} (ha : Qs a) (hb : Qs b) (h : R (.bl (decide (a.1 * b.2 > b.1 * a.2))) S) : Cal w_is_dearer [qD a, qD b] S R Rx := by
  refine .mk ?_
  rw [w_is_dearer_eq]
  exact sp_is_above ha hb h
/-- what a price is told as -/
def qText (q : Int × Int) : Str := if q.2 = 1 then toString q.1 else (toString q.1 : Str) ++ "/" ++ toString q.2
/-- no list, no instance -/
def Nr : D → Prop
  | .ref _ => False
  | _ => True
def isInt : D → Bool
  | .int _ => true
  | _ => false
theorem sp_is_integer {d : D} (hd : Nr d) (h : R (.bl (isInt d)) S) : Cal w_is_integer [d] S R Rx := by
  refine .mk ?_
  rw [w_is_integer_eq]
  cases d with
  | non => exact ifF rfl h
  | bl b => exact ifT rfl h
  | int i => exact ifT rfl h
  | str x => exact ifF rfl h
  | tup xs => exact ifF rfl h
  | ref n => exact hd.elim
def isTup : D → Int → Bool
  | .tup xs, n => decide ((xs.length : Int) = n)
  | _, _ => false
theorem sp_is_tuple {d : D} {n : Int} (hd : Nr d) (h : R (.bl (isTup d n)) S) : Cal w_is_tuple [d, .int n] S R Rx := by
  refine .mk ?_
  rw [w_is_tuple_eq]
  cases d with
  | non => exact ifF rfl h
  | bl b => exact ifF rfl h
  | int i => exact ifF rfl h
  | str x => exact ifF rfl h
  | tup xs => exact ifT rfl h
  | ref n => exact hd.elim
theorem sp_is_tuple_ref {q : Nat} {xs : List D} {n : Int} (hq : S[q]? = some (.lst xs)) (h : R (.bl false) S) : Cal w_is_tuple [.ref q, .int n] S R Rx := by
  refine .mk ?_
  rw [w_is_tuple_eq]
  exact lst_at hq (ifF rfl h)
def fracB : D → Bool
  | .tup [.int a, .int b] => decide (b ≥ 1) && decide (gcdZ a b = 1)
  | _ => false
theorem fracB_len {xs : List D} (h : xs.length ≠ 2) : fracB (.tup xs) = false := by
  unfold fracB
  split
  · rename_i e
    cases e
    exact absurd rfl h
  · rfl
/-- .. nor within -/
def Nr2 : D → Prop
  | .ref _ => False
  | .tup xs => ∀ x ∈ xs, Nr x
  | _ => True
theorem Nr2.nr {d : D} (h : Nr2 d) : Nr d := by
  cases d <;> first | exact h.elim | trivial
theorem sp_is_fraction {d : D} (hd : Nr2 d) (h : R (.bl (fracB d)) S) : Cal w_is_fraction [d] S R Rx := by
  refine .mk ?_
  rw [w_is_fraction_eq]
  refine sp_is_tuple hd.nr ?_
  cases d with
  | non => exact ifT rfl (ifT rfl h)
  | bl b => exact ifT rfl (ifT rfl h)
  | int i => exact ifT rfl (ifT rfl h)
  | str x => exact ifT rfl (ifT rfl h)
  | ref n => exact hd.elim
  | tup xs =>
    match xs, hd, h with
    | [], _, h => exact ifT rfl (ifT rfl h)
    | [x], _, h =>
      rw [fracB_len (by simp)] at h
      exact ifT rfl (ifT rfl h)
    | x :: y :: z :: r, _, h =>
      rw [fracB_len (by simp)] at h
      refine ifT ?_ (ifT rfl h)
      show (!decide (((x :: y :: z :: r).length : Int) = 2)) = true
      simp
      omega
    | [x, y], hd, h =>
      refine ifF rfl (ix_at rfl (sp_is_integer (hd x (by simp)) ?_))
      cases x with
      | non => exact ifT rfl (ifT rfl h)
      | bl b => exact ifT rfl (ifT rfl h)
      | str x => exact ifT rfl (ifT rfl h)
      | tup xs => exact ifT rfl (ifT rfl h)
      | ref n => exact (hd (.ref n) (by simp)).elim
      | int a =>
        refine ifF rfl (ix_at rfl (sp_is_integer (hd y (by simp)) ?_))
        cases y with
        | non => exact ifT rfl h
        | bl b => exact ifT rfl h
        | str x => exact ifT rfl h
        | tup xs => exact ifT rfl h
        | ref n => exact (hd (.ref n) (by simp)).elim
        | int b =>
          refine ifF rfl (ix_at rfl ?_)
          refine ifB (fun hb => ?_) fun hb => ?_
          · refine ix_at rfl (ix_at rfl (sp_gcd ?_))
            have e : fracB (.tup [.int a, .int b]) = decide (gcdZ a b = 1) := by
              show (decide (b ≥ 1) && decide (gcdZ a b = 1)) = _
              rw [hb, Bool.true_and]
            rw [e] at h
            exact h
          · have e : fracB (.tup [.int a, .int b]) = decide (b ≥ 1) := by
              show (decide (b ≥ 1) && decide (gcdZ a b = 1)) = _
              rw [hb, Bool.false_and]
            rw [e] at h
            exact h
theorem sp_is_fraction_ref {q : Nat} {xs : List D} (hq : S[q]? = some (.lst xs)) (h : R (.bl false) S) : Cal w_is_fraction [.ref q] S R Rx := by
  refine .mk ?_
  rw [w_is_fraction_eq]
  exact sp_is_tuple_ref hq (ifT rfl (ifT rfl h))
def nrB : D → Bool
  | .ref _ => false
  | _ => true
def nr2B : D → Bool
  | .ref _ => false
  | .tup xs => xs.all nrB
  | _ => true
theorem nr_of {d : D} (h : nrB d = true) : Nr d := by
  cases d <;> first | trivial | cases h
theorem nr2_of {d : D} (h : nr2B d = true) : Nr2 d := by
  cases d with
  | ref n => cases h
  | tup xs => exact fun x hx => nr_of (List.all_eq_true.mp h x hx)
  | non => trivial
  | bl b => trivial
  | int i => trivial
  | str x => trivial
def priceB : D → Bool
  | .tup [.int a, .int b] => decide (b ≥ 1) && decide (gcdZ a b = 1) && decide (a ≥ 0)
  | _ => false
theorem fracB_t {d : D} (h : fracB d = true) : ∃ a b, d = .tup [.int a, .int b] := by
  unfold fracB at h
  split at h
  · exact ⟨_, _, rfl⟩
  · cases h
theorem priceB_of {a b : Int} : priceB (.tup [.int a, .int b]) = (fracB (.tup [.int a, .int b]) && decide (a ≥ 0)) := rfl
theorem priceB_f {d : D} (h : fracB d = false) : priceB d = false := by
  unfold priceB
  split
  · rename_i a b
    have h' : (decide (b ≥ 1) && decide (gcdZ a b = 1)) = false := h
    rw [h', Bool.false_and]
  · rfl
theorem sp_is_price {d : D} (hd : Nr2 d) (h : R (.bl (priceB d)) S) : Cal w_is_price [d] S R Rx := by
  refine .mk ?_
  rw [w_is_price_eq]
  refine sp_is_fraction hd (ifB (fun hb => ?_) fun hb => ?_)
  · obtain ⟨a, b, rfl⟩ := fracB_t hb
    rw [priceB_of, hb, Bool.true_and] at h
    exact ix_at rfl h
  · rw [priceB_f hb] at h
    rw [hb]
    exact h
theorem sp_is_price_ref {q : Nat} {xs : List D} (hq : S[q]? = some (.lst xs)) (h : R (.bl false) S) : Cal w_is_price [.ref q] S R Rx := by
  refine .mk ?_
  rw [w_is_price_eq]
  exact sp_is_fraction_ref hq (ifF rfl h)
/-- a price as the law deals it -/
structure Pr (q : Int × Int) : Prop where
  t0 : 0 ≤ q.1
  t1 : q.1 < 1000
  b0 : 1 ≤ q.2
  b1 : q.2 ≤ 12
  g : gcdZ q.1 q.2 = 1
theorem Pr.qs {q : Int × Int} (h : Pr q) : Qs q := by
  obtain ⟨h1, h2, h3, h4, _⟩ := h
  exact ⟨lt2 (by omega), lt2 (by omega), by omega⟩
theorem gcd_div {a b : Int} (hb : b ≠ 0) : gcdZ (a / gcdZ a b) (b / gcdZ a b) = 1 := by
  have h := Int.gcd_ediv_gcd_ediv_gcd (i := a) (j := b) (Int.gcd_pos_of_ne_zero_right a hb)
  show ((Int.gcd _ _ : Nat) : Int) = 1
  rw [h]
  rfl
theorem frac_pr {t b : Int} (h0 : 0 ≤ t) (h1 : t < 1000) (h2 : 1 ≤ b) (h3 : b ≤ 12) : Pr (frac t b) := by
  have hb : b ≠ 0 := by omega
  have g0 := gcd_pos (a := t) hb
  have e : frac t b = (t / gcdZ t b, b / gcdZ t b) := by unfold frac; rw [if_neg (by omega)]
  rw [e]
  have dv : gcdZ t b ∣ b := Int.gcd_dvd_right t b
  refine ⟨Int.ediv_nonneg h0 (by omega), ?_, ?_, ?_, gcd_div hb⟩
  · exact Int.lt_of_le_of_lt (Int.ediv_le_self _ h0) h1
  · have : 0 < b / gcdZ t b := Int.ediv_pos_of_pos_of_dvd (by omega) (by omega) dv
    exact this
  · exact Int.le_trans (Int.ediv_le_self _ (by omega)) h3
abbrev pL : List (Int × Int) := [(0, 1), (1, 1), (2, 1), (3, 1), (5, 1), (1, 2), (3, 2), (2, 3), (7, 4), (11, 12), (40, 1)]
theorem pL_ok : ∀ q ∈ pL, Pr q := by
  have h : ∀ q ∈ pL, 0 ≤ q.1 ∧ q.1 < 1000 ∧ 1 ≤ q.2 ∧ q.2 ≤ 12 ∧ gcdZ q.1 q.2 = 1 := by decide +kernel
  intro q hq
  obtain ⟨h1, h2, h3, h4, h5⟩ := h q hq
  exact ⟨h1, h2, h3, h4, h5⟩
theorem sp_law_price {n m : Nat} (d : Deal n m S) (k : ∀ q S', Pr q → Frm [n, m] S S' → Deal n m S' → R (qD q) S') : Cal w_law_price [.ref n] S R Rx := by
  obtain ⟨hn, hm⟩ := d.lt
  refine .mk ?_
  rw [w_law_price_eq]
  have z2 : 2 ≤ sizeLine := by decide
  have z11 : 11 ≤ sizeLine := by decide
  refine ⟨z2, z2, z2, z2, z2, z2, z2, z2, z2, z2, z2, z11, ?_⟩
  have f0 : Frm [] S (S ++ [Ob.lst (pL.map qD)]) := .app _
  refine sp_of (xs := pL.map qD) (d.frm0 f0) get_last (by simp; omega) (by decide) (by decide) fun x S' hx f d' => ?_
  obtain ⟨q, hq, rfl⟩ := List.mem_map.mp hx
  exact k q S' (pL_ok q hq) (f0.nil.trans f) d'
theorem sp_any_price {n m : Nat} (d : Deal n m S) (k : ∀ q S', Pr q → Frm [n, m] S S' → Deal n m S' → R (qD q) S') : Cal w_law_any_price [.ref n] S R Rx := by
  obtain ⟨hn, hm⟩ := d.lt
  refine .mk ?_
  rw [w_law_any_price_eq]
  refine sp_law_price d fun q1 S1 p1 f1 d1 => ?_
  refine sp_any d1 (by decide) (lt8 (by decide)) fun t S2 t0 t1 f2 d2 => ?_
  refine sp_any d2 (by decide) (lt8 (by decide)) fun b S3 b0 b1 f3 d3 => ?_
  have pq : Pr (frac t (1 + b)) := frac_pr t0 t1 (by omega) (by omega)
  refine sp_lratio (by omega) (lt8 (by omega)) ?_
  have z2 : 2 ≤ sizeLine := by decide
  refine ⟨z2, ?_⟩
  generalize frac t (1 + b) = q2 at pq ⊢
  have l1 := f1.len
  have l2 := f2.len
  have l3 := f3.len
  have f0 : Frm [] S3 (S3 ++ [Ob.lst ([q1, q2].map qD)]) := .app _
  refine sp_of (xs := [q1, q2].map qD) (d3.frm0 f0) get_last (by simp; omega) (by simp) (by simp) fun x S' hx f d' => ?_
  obtain ⟨q, hq, rfl⟩ := List.mem_map.mp hx
  have F := (f1.trans f2).trans (f3.trans (f0.nil.trans f))
  simp only [List.mem_cons, List.not_mem_nil, or_false] at hq
  refine k q S' ?_ F d'
  rcases hq with rfl | rfl
  · exact p1
  · exact pq
theorem lg {i : Int} (h : i.natAbs < 2 ^ 20) : i.natAbs.log2 < 1920 := log2_lt h (by decide) (by decide)
theorem len_num {i : Int} (h0 : 0 ≤ i) (h1 : i < 1000) : (Str.ofString (toString i)).length ≤ 3 := toString_length_le h0 (by decide) (by omega)
theorem sp_price_text {q : Int × Int} (p : Pr q) (h : R (.str (qText q)) S) : Cal w_price_text [qD q] S R Rx := by
  refine .mk ?_
  rw [w_price_text_eq]
  obtain ⟨h0, h1, h2, h3, _⟩ := p
  have z : 1000 < sizeLine := by decide
  have l1 := len_num h0 h1
  have l2 := len_num (i := q.2) (by omega) (by omega)
  have l3 : Str.length "/" = 1 := by decide
  refine ix_at rfl (ifB (fun hc => ?_) fun hc => ?_)
  · have e : q.2 = 1 := by simpa using hc
    refine ix_at rfl ⟨lg (by omega), ?_⟩
    unfold qText at h
    rw [if_pos e] at h
    exact h
  · have e : ¬ q.2 = 1 := by simpa using hc
    refine ix_at rfl ⟨lg (by omega), ?_⟩
    refine ⟨?_, ?_⟩
    · rw [Str.empty_append]; omega
    refine ⟨?_, ix_at rfl ⟨lg (by omega), ?_, ?_⟩⟩
    · rw [Str.empty_append, Str.length_append]; omega
    · rw [Str.empty_append, Str.length_append, Str.length_append]; omega
    · unfold qText at h
      rw [if_neg e] at h
      show (R : RD) (.str _) S
      rw [Str.empty_append]
      exact h
theorem sp_law_price_text {q : Int × Int} (p : Pr q) (h : R (.str (qText q)) S) : Cal w_law_price_text [qD q] S R Rx := by
  refine .mk ?_
  rw [w_law_price_text_eq]
  obtain ⟨h0, h1, h2, h3, _⟩ := p
  have z : 1000 < sizeLine := by decide
  have l1 := len_num h0 h1
  have l2 := len_num (i := q.2) (by omega) (by omega)
  have l3 : Str.length "/" = 1 := by decide
  refine ix_at rfl (ifB (fun hc => ?_) fun hc => ?_)
  · have e : q.2 = 1 := by simpa using hc
    refine ix_at rfl ⟨lg (by omega), ?_⟩
    unfold qText at h
    rw [if_pos e] at h
    exact h
  · have e : ¬ q.2 = 1 := by simpa using hc
    refine ix_at rfl ⟨lg (by omega), ?_⟩
    refine ⟨by omega, ix_at rfl ⟨lg (by omega), ?_, ?_⟩⟩
    · rw [Str.length_append]; omega
    · unfold qText at h
      rw [if_neg e] at h
      exact h
theorem lc_all {p n : Nat} {ps : List D} {a : Option D} {Rq : Sto → Prop} (hne : p ≠ n) : ∀ (xs : List D) (S : Sto), (∀ x ∈ xs, Good x) → S[p]? = some (.lst ps) → S[n]? = some (.lst []) →
    (∀ S', S'[n]? = some (.lst []) → Rq S') →
    lcW n (fun S => S[p]? = some (.lst ps)) (gTp 2 (gsCons (gNm 1) (gsCons (gNm 2) gsNil))) q1_law_all v1_law_all [a, none, none] Rq xs S
  | [], S, hg, hp, hn, k => ⟨hp, k S hn⟩
  | x :: xs, S, hg, hp, hn, k => by
    obtain ⟨d, rfl, pd, wd⟩ := hg x (by simp)
    refine ⟨hp, ⟨rfl, sp_same pd wd fun S' f => ifF rfl ?_⟩⟩
    exact lc_all hne xs S' (fun y hy => hg y (by simp [hy])) (f.get0 hp) (f.get0 hn) k
theorem sp_all {p : Nat} {ps : List D} (hp : S[p]? = some (.lst ps)) (hg : ∀ x ∈ ps, Good x) (h : ∀ S', R (.bl true) S') : Cal w_law_all [.ref p] S R Rx := by
  refine .mk ?_
  rw [w_law_all_eq]
  have lp := lt_of_get hp
  have e : (S ++ [Ob.lst []])[p]? = some (.lst ps) := (Frm.app (W := []) _).get0 hp
  refine iter_at hp (lc_all (by omega) ps _ hg e get_last fun S' hn => lst_at hn (h S'))
theorem pl_q {q : Int × Int} : Pl (qD q) := pl_tup.mpr (pls_cons.mpr ⟨pl_int, pls_cons.mpr ⟨pl_int, pls_nil⟩⟩)
theorem wt_int {i : Int} : wt (.int i) = 1 := by rw [wt]; intro _ z; cases z
theorem wt_str {i : Str} : wt (.str i) = 1 := by rw [wt]; intro _ z; cases z
theorem wt_bl {i : Bool} : wt (.bl i) = 1 := by rw [wt]; intro _ z; cases z
theorem wt_q {q : Int × Int} : wt (qD q) ≤ 100000 := by rw [wt, wts, wts, wts, wt_int, wt_int]; decide
theorem nr_q {q : Int × Int} : Nr2 (qD q) := fun x hx => by
  simp only [List.mem_cons, List.not_mem_nil, or_false] at hx
  rcases hx with rfl | rfl <;> trivial
theorem priceB_pr {q : Int × Int} (p : Pr q) : priceB (qD q) = true := by
  obtain ⟨h0, h1, h2, h3, h4⟩ := p
  show (decide (q.2 ≥ 1) && decide (gcdZ q.1 q.2 = 1) && decide (q.1 ≥ 0)) = true
  rw [h4]
  simp [h0]
  omega
theorem ev_price {ρ : Ev} {t : TD} {v : D} {b : Bool} (hn : Nr2 v) (e : priceB v = b) (ht : ∀ S Rx R, Cal w_is_price [v] S R Rx → t Rx ρ S R) : EvG ρ (eTup (aCons t (aCons (eC (.bl b)) aNil))) :=
  EvV.bl fun S Rx R k => ht S Rx R (sp_is_price hn (by rw [e]; exact k S .refl))
theorem Deal.hW {n m : Nat} {S : Sto} (d : Deal n m S) : ∀ i ∈ [n, m], i < S.length := by
  intro i hi
  obtain ⟨h1, h2⟩ := d.lt
  simp only [List.mem_cons, List.not_mem_nil, or_false] at hi
  rcases hi with rfl | rfl <;> assumption
theorem gcd2 {a b : Int} : gcdZ (a * 2) (b * 2) = 2 * gcdZ a b := by
  show ((Int.gcd (a * 2) (b * 2) : Nat) : Int) = 2 * ((Int.gcd a b : Nat) : Int)
  rw [Int.gcd_mul_right]
  have : Int.natAbs 2 = 2 := rfl
  rw [this]
  omega
theorem f1_step {E : DEnds} {n m p c : Nat} {sc t v r5 r6 r7 : Option D} (d : Deal n m S) (hp : Prs [n, m] p c S) (hc : c + 17 ≤ 100000)
    (k : ∀ p' r5 r6 r7 S', Deal n m S' → Prs [n, m] p' (c + 17) S' → E.nx [sc, some (.ref n), some (.ref p'), t, v, r5, r6, r7] S') : f1_law E [sc, some (.ref n), some (.ref p), t, v, r5, r6, r7] S := by
  refine sp_any_price d fun one S1 p1 f1 d1 => sp_any_price d1 fun other S2 p2 f2 d2 => sp_any_price d2 fun number S3 p3 f3 d3 => ?_
  have q1 := p1.qs
  have q2 := p2.qs
  have q3 := p3.qs
  obtain ⟨a0, a1, b0, b1, g1⟩ := id p1
  have hp3 := hp.frm (f1.trans (f2.trans f3))
  have z2 : 2 ≤ sizeLine := by decide
  have z1 : 1 ≤ sizeLine := by decide
  have z3 : 3 ≤ sizeLine := by decide
  try dsimp only [f1_law, sSeq, sSet, sPar3, List.set]
  refine add_prs (n := 2) hp3 d3.hW (by rfl) ?_ (by omega) fun p4 S4 f4 hp4 _ => ?_
  · exact .cons (EvV.pair (d := qD (qAdd one other)) (fun S Rx R k => sp_price_plus q1 q2 (k S .refl)) (fun S Rx R k => sp_lplus q1 q2 (k S .refl)) pl_q wt_q)
        (.cons (EvV.pair (d := qD (qAdd one other)) (fun S Rx R k => sp_price_plus q1 q2 (k S .refl)) (fun S Rx R k => sp_lplus q1 q2 (k S .refl)) pl_q wt_q) .nil)
  have d4 := d3.frm0 f4
  try dsimp only [f1_law, sSeq, sSet, sPar3, List.set]
  refine add_prs (n := 2) hp4 d4.hW (by rfl) ?_ (by omega) fun p5 S5 f5 hp5 _ => ?_
  · exact .cons (EvV.pair (d := qD (qMul number one)) (fun S Rx R k => sp_price_times q3 q1 (k S .refl)) (fun S Rx R k => sp_ltimes q3 q1 (k S .refl)) pl_q wt_q)
        (.cons (EvV.pair (d := qD (qMul number one)) (fun S Rx R k => sp_price_times q3 q1 (k S .refl)) (fun S Rx R k => sp_ltimes q3 q1 (k S .refl)) pl_q wt_q) .nil)
  have d5 := d4.frm0 f5
  try dsimp only [f1_law, sSeq, sSet, sPar3, List.set]
  refine add_prs (n := 2) hp5 d5.hW (by rfl) ?_ (by omega) fun p6 S6 f6 hp6 _ => ?_
  · exact .cons (EvV.pair (fun S Rx R k => sp_is_dearer q1 q2 (k S .refl)) (fun S Rx R k => sp_lbelow q2 q1 (k S .refl)) pl_bl (by rw [wt_bl]; decide))
        (.cons (EvV.pair (fun S Rx R k => sp_is_dearer q2 q1 (k S .refl)) (fun S Rx R k => sp_lbelow q1 q2 (k S .refl)) pl_bl (by rw [wt_bl]; decide)) .nil)
  have d6 := d5.frm0 f6
  have e1 : decide (one.1 * one.2 > one.1 * one.2) = false := by simp
  try dsimp only [f1_law, sSeq, sSet, sPar3, List.set]
  refine add_prs (n := 3) hp6 d6.hW (by rfl) ?_ (by omega) fun p7 S7 f7 hp7 _ => ?_
  · exact .cons (EvV.bl (fun S Rx R k => sp_is_dearer q1 q1 (by rw [e1]; exact k S .refl)))
        (.cons (EvV.pair (fun S Rx R k => sp_price_text p1 (k S .refl)) (fun S Rx R k => sp_law_price_text p1 (k S .refl)) pl_str (by rw [wt_str]; decide))
        (.cons (EvV.pair (fun S Rx R k => sp_price_text p2 (k S .refl)) (fun S Rx R k => sp_law_price_text p2 (k S .refl)) pl_str (by rw [wt_str]; decide)) .nil))
  have d7 := d6.frm0 f7
  try dsimp only [f1_law, sSeq, sSet, sPar3, List.set]
  refine add_prs (n := 4) hp7 d7.hW (by rfl) ?_ (by omega) fun p8 S8 f8 hp8 _ => ?_
  · exact .cons (ev_price nr_q (priceB_pr p1) fun S Rx R h => h)
        (.cons (ev_price nr_q (priceB_pr p2) fun S Rx R h => h)
        (.cons (EvV.bl fun S Rx R k => sp_is_price_ref get_last (k _ (.app _)))
        (.cons (ev_price (v := .tup [.int one.1, .int one.2, .int 1]) (fun x hx => by simp only [List.mem_cons, List.not_mem_nil, or_false] at hx; rcases hx with rfl | rfl | rfl <;> trivial) rfl fun S Rx R h => ⟨z1, z3, h⟩) .nil)))
  have d8 := d7.frm0 f8
  have sm : ∀ i : Int, i.natAbs < 2 ^ 20 → i.natAbs.log2 + (2 : Int).natAbs.log2 < 1000000 := fun i h => room (n := 20) (m := 2) h (by decide) (by decide) (by decide) (by decide)
  try dsimp only [f1_law, sSeq, sSet, sPar3, List.set]
  refine add_prs (n := 2) hp8 d8.hW (by rfl) ?_ (by omega) fun p9 S9 f9 hp9 _ => ?_
  · exact .cons (ev_price (v := qD (one.1 * 2, one.2 * 2)) nr_q (by
          show (decide (one.2 * 2 ≥ 1) && decide (gcdZ (one.1 * 2) (one.2 * 2) = 1) && decide (one.1 * 2 ≥ 0)) = false
          rw [gcd2, g1]; simp) fun S Rx R h => ix_at rfl ⟨sm _ (by omega), ix_at rfl ⟨sm _ (by omega), z2, h⟩⟩)
        (.cons (ev_price (v := qD (0 - one.1 - 1, 1)) nr_q (by
          show (decide ((1 : Int) ≥ 1) && decide (gcdZ (0 - one.1 - 1) 1 = 1) && decide (0 - one.1 - 1 ≥ 0)) = false
          have : ¬ (0 - one.1 - 1 ≥ 0) := by omega
          rw [decide_eq_false this, Bool.and_false]) fun S Rx R h => ix_at rfl ⟨z2, h⟩) .nil)
  have d9 := d8.frm0 f9
  try dsimp only [f1_law, sSeq, sSet, sPar3, List.set]
  refine add_prs (n := 2) hp9 d9.hW (by rfl) ?_ (by omega) fun p10 S10 f10 hp10 _ => ?_
  · exact .cons (ev_price (v := qD (one.1, 0 - one.2)) nr_q (by
          show (decide (0 - one.2 ≥ 1) && decide (gcdZ one.1 (0 - one.2) = 1) && decide (one.1 ≥ 0)) = false
          have : ¬ (0 - one.2 ≥ 1) := by omega
          rw [decide_eq_false this, Bool.false_and, Bool.false_and]) fun S Rx R h => ix_at rfl (ix_at rfl ⟨z2, h⟩))
        (.cons (ev_price (v := .tup [.str (toString one.1), .int one.2]) (fun x hx => by simp only [List.mem_cons, List.not_mem_nil, or_false] at hx; rcases hx with rfl | rfl <;> trivial) rfl fun S Rx R h => ix_at rfl ⟨lg (by omega), ix_at rfl ⟨z2, h⟩⟩) .nil)
  exact k _ _ _ _ _ (d9.frm0 f10) hp10
theorem f1_loop {E : DEnds} {n m : Nat} {sc v : Option D} : ∀ (xs : List D) (p c : Nat) (t r5 r6 r7 : Option D) (S : Sto), Deal n m S → Prs [n, m] p c S → c + 17 * xs.length ≤ 100000 →
    (∀ p' t r5 r6 r7 S', Prs [] p' (c + 17 * xs.length) S' → E.nx [sc, some (.ref n), some (.ref p'), t, v, r5, r6, r7] S') → forW noG (gNm 3) f1_law E xs [sc, some (.ref n), some (.ref p), t, v, r5, r6, r7] S
  | [], p, c, t, r5, r6, r7, S, d, hp, hc, k => ⟨trivial, k _ _ _ _ _ _ ⟨by simp, hp.ex⟩⟩
  | x :: xs, p, c, t, r5, r6, r7, S, d, hp, hc, k => by
    simp only [List.length_cons] at hc
    refine ⟨trivial, f1_step d hp (by omega) fun p' r5 r6 r7 S' d' hp' => ?_⟩
    refine f1_loop xs p' (c + 17) _ r5 r6 r7 S' d' hp' (by omega) fun p' t r5 r6 r7 S' hp => k p' t r5 r6 r7 S' (hp.mono ?_)
    simp only [List.length_cons]
    omega
theorem f2_loop {E : DEnds} {q p : Nat} {all : List D} {sc dl t r5 r6 r7 : Option D} (hne : q ≠ p) : ∀ (vals ps : List D) (r4 : Option D) (S : Sto), (∀ v ∈ vals, (Nr2 v ∧ priceB v = false) ∨ (∃ r, v = .ref r ∧ r ≠ p ∧ S[r]? = some (.lst []))) → S[q]? = some (.lst all) → S[p]? = some (.lst ps) → (∀ x ∈ ps, Good x) → ps.length + vals.length ≤ 100000 →
    (∀ r4 ps' S', S'[p]? = some (.lst ps') → (∀ x ∈ ps', Good x) → ps'.length ≤ ps.length + vals.length → E.nx [sc, dl, some (.ref p), t, r4, r5, r6, r7] S') → forW (fun S => S[q]? = some (.lst all)) (gNm 4) f2_law E vals [sc, dl, some (.ref p), t, r4, r5, r6, r7] S
  | [], ps, r4, S, hv, hq, hp, hg, hl, k => ⟨hq, k r4 ps S hp hg (by simp)⟩
  | v :: vals, ps, r4, S, hv, hq, hp, hg, hl, k => by
    simp only [List.length_cons] at hl
    have lp := lt_of_get hp
    have z2 : 2 ≤ sizeLine := by decide
    have zl : 100000 < sizeLine := by decide
    refine ⟨hq, mlst_at hp trivial, ?_⟩
    have go : Cal w_is_price [v] S (fun d S' => d = .bl false ∧ S' = S) (E.x [sc, dl, some (.ref p), t, some v, r5, r6, r7]) := by
      rcases hv v (by simp) with ⟨h1, h2⟩ | ⟨r, rfl, _, h⟩
      · exact sp_is_price h1 (by rw [h2]; exact ⟨rfl, rfl⟩)
      · exact sp_is_price_ref h ⟨rfl, rfl⟩
    have nx : appD (.tup [.bl false, .bl false]) p S fun _ S' => forW (fun S => S[q]? = some (.lst all)) (gNm 4) f2_law E vals [sc, dl, some (.ref p), t, some v, r5, r6, r7] S' := by
      refine mlst_at hp ⟨by omega, ?_⟩
      refine f2_loop hne vals (ps ++ [.tup [.bl false, .bl false]]) _ _ (fun w hw => ?_) (by rw [List.getElem?_set_ne (Ne.symm hne)]; exact hq) (by rw [List.getElem?_set_self lp]) (fun x hx => ?_) (by simp; omega) fun r4 ps' S' h1 h2 h3 => k r4 ps' S' h1 h2 (by simp at *; omega)
      · rcases hv w (by simp [hw]) with h | ⟨r, h1, h2, h3⟩
        · exact .inl h
        · exact .inr ⟨r, h1, h2, by rw [List.getElem?_set_ne (Ne.symm h2)]; exact h3⟩
      · rcases List.mem_append.mp hx with h | h
        · exact hg x h
        · rw [List.mem_singleton] at h
          exact ⟨.bl false, h, pl_bl, by rw [wt_bl]; decide⟩
    rcases hv v (by simp) with ⟨h1, h2⟩ | ⟨r, rfl, _, h⟩
    · exact sp_is_price h1 (by rw [h2]; exact ⟨z2, nx⟩)
    · exact sp_is_price_ref h ⟨z2, nx⟩
theorem law_true (ns : List Int) (hl : ns.length ≤ 63) : w_law [.ref 0] [.fix (ns.map D.int)] (fun d _ => d = .bl true) noX := by
  rw [w_law_eq]
  have z : ∀ n : Nat, n ≤ 1000 → n ≤ sizeLine := fun n h => sz h
  refine sp_deal (q := 0) (by decide) (by decide) rfl fun n m S1 ln lm f1 d1 => ⟨z 0 (by decide), ⟨by decide, by decide⟩, ?_⟩
  refine f1_loop _ S1.length 0 none none none none _ (d1.frm0 (.app _)) ⟨?_, [], get_last, by simp, by simp⟩ (by simp [rangeD]) fun p t r5 r6 r7 S2 hp => ?_
  · obtain ⟨h1, h2⟩ := d1.lt
    simp
    omega
  have hc : 17 * (rangeD 0 (14 : Int).toNat).length = 238 := by simp [rangeD]
  rw [hc] at hp
  obtain ⟨_, ps, hp, hg, hpl⟩ := hp
  have lp := lt_of_get hp
  refine ⟨z 0 (by decide), z 1 (by decide), z 2 (by decide), z 2 (by decide), z 2 (by decide), z 2 (by decide), z 2 (by decide), z 2 (by decide), z 1 (by decide), z 2 (by decide), z 0 (by decide), z 2 (by decide), z 16 (by decide), ?_⟩
  have g0 : (S2 ++ [Ob.lst []])[p]? = some (.lst ps) := (Frm.app (W := []) _).get0 hp
  have g1 : (S2 ++ [Ob.lst []])[S2.length]? = some (.lst []) := get_last
  refine iter_at get_last (f2_loop (by simp; omega) _ ps _ _ ?_ get_last ((Frm.app (W := []) _).get0 g0) hg ?_ ?_)
  · intro v hv
    simp only [List.mem_cons, List.not_mem_nil, or_false] at hv
    rcases hv with rfl | rfl | rfl | rfl | rfl | rfl | rfl | rfl | rfl | rfl | rfl | rfl | rfl | rfl | rfl | rfl
    case inr.inr.inr.inr.inr.inr.inr.inr.inr.inr.inr.inr.inr.inr.inl => exact .inr ⟨_, rfl, by omega, (Frm.app (W := []) _).get0 g1⟩
    all_goals exact .inl ⟨nr2_of rfl, by decide +kernel⟩
  · simp only [List.length_cons, List.length_nil]
    omega
  · intro r4 ps' S3 h3 hg3 hl3
    simp only [List.length_cons, List.length_nil] at hl3
    have hp3 : Prs [] p (238 + 16) S3 := ⟨by simp, ps', h3, hg3, by omega⟩
    have z2 : 2 ≤ sizeLine := by decide
    try dsimp only [sSeq, sSet, List.set]
    refine add_prs (n := 4) hp3 (by simp) (by rfl) ?_ (by omega) fun p4 S4 f4 hp4 _ => ?_
    · exact .cons (ev_price (v := qD (0, 1)) nr_q (by decide +kernel) fun S Rx R h => ⟨z2, h⟩)
        (.cons (EvV.pair (d := .str "0") (fun S Rx R k => ⟨z2, sp_price_text (q := (0, 1)) (pL_ok _ (by simp)) (k S .refl)⟩) .c pl_str (by rw [wt_str]; decide))
        (.cons (EvV.pair (d := .str "7/2") (fun S Rx R k => ⟨z2, sp_price_text (q := (7, 2)) ⟨by decide, by decide, by decide, by decide, by decide +kernel⟩ (by
            have e : qText (7, 2) = "7/2" := by decide +kernel
            rw [e]; exact k S .refl)⟩) .c pl_str (by rw [wt_str]; decide))
        (.cons (EvV.pair (d := qD (1, 1)) (fun S Rx R k => ⟨z2, z2, sp_price_plus (a := (1, 2)) (b := (1, 2)) (Pr.qs (pL_ok _ (by simp))) (Pr.qs (pL_ok _ (by simp))) (by
            have e : qAdd (1, 2) (1, 2) = (1, 1) := by decide +kernel
            rw [e]; exact k S .refl)⟩) (fun S Rx R k => ⟨z2, k S .refl⟩) pl_q wt_q) .nil)))
    dsimp only [sRet, eCall]
    refine aCons_step ?_
    refine add_prs (n := 3) (ρ := [some (.ref 0), some (.ref n), some (.ref p4), t, r4, r5, r6, r7]) hp4 (by simp) rfl ?_ (by omega) fun p5 S5 f5 hp5 _ => ?_
    · exact .cons (EvV.pair (d := qD (1, 2)) (fun S Rx R k => ⟨z2, z2, sp_price_times (a := (2, 3)) (b := (3, 4)) (Pr.qs (pL_ok _ (by simp))) (Pr.qs ⟨by decide, by decide, by decide, by decide, by decide +kernel⟩) (by
            have e : qMul (2, 3) (3, 4) = (1, 2) := by decide +kernel
            rw [e]; exact k S .refl)⟩) (fun S Rx R k => ⟨z2, k S .refl⟩) pl_q wt_q)
        (.cons (EvV.bl (fun S Rx R k => ⟨z2, z2, sp_is_dearer (a := (1, 2)) (b := (1, 3)) (Pr.qs (pL_ok _ (by simp))) (Pr.qs ⟨by decide, by decide, by decide, by decide, by decide +kernel⟩) (k S .refl)⟩))
        (.cons (ev_price (v := qD (10 ^ 60, 7)) nr_q (by decide +kernel) fun S Rx R h => ⟨by decide, z2, h⟩) .nil))
    obtain ⟨_, ps5, h5, hg5, _⟩ := hp5
    exact sp_all h5 hg5 fun S' => rfl
end K00
open PySem PySem.W PySem.Calls PyProof.Rows
theorem PySem.Challenge.cw_cheapathand_k00_prices_are_added_and_tol_holds : PySem.Challenge.rw_cheapathand_k00_prices_are_added_and_tol.Holds := by
  w_on; o_law
  refine HandSHeadRun.head_any (r := OpenLaw.row PySem.Challenge.rw_cheapathand_k00_prices_are_added_and_tol) (q := view (OpenLaw.row PySem.Challenge.rw_cheapathand_k00_prices_are_added_and_tol).prog [31]) (H := DL.hookX 5 K00.fas K00.fns K00.css) (ob := K00.ob) (M := 20000) (loose := K00.loose) (d := HandSHeadRun.topDef (OpenLaw.row PySem.Challenge.rw_cheapathand_k00_prices_are_added_and_tol).prog 31) (kwd := []) K00.ob_eq
    (by kernel_rfl) (fun s => by kernel_rfl) K00.run (by kernel_rfl) (by kernel_rfl) (by kernel_rfl) (by rfl) (by first | assumption | decide +kernel) (by decide +kernel) ⟨rfl, rfl, rfl, rfl, rfl, by decide +kernel⟩ ?hw ?hc
  case hw => w_witness2
  case hc =>
    refine DL.walk_D (l := PySem.Challenge.rw_cheapathand_k00_prices_are_added_and_tol) (n := 63) (k := 5) (x := "script") rfl (by decide) (by kernel_rfl) ⟨rfl, by decide, by decide⟩ fun w mg fa h Y G hmg0 => ?_
    obtain ⟨K, KX, c⟩ := Y
    have hmg : mg ("law" : PySem.Str) = some (.ref fa) := by
      have e : (HandSHeadRun.topDef (OpenLaw.row PySem.Challenge.rw_cheapathand_k00_prices_are_added_and_tol).prog 31).name = ("law" : PySem.Str) := by kernel_rfl
      rw [← e]
      exact hmg0
    obtain ⟨fd, hb, hF⟩ := K00.facts (P := (PySem.Challenge.rw_cheapathand_k00_prices_are_added_and_tol).prog) (w := w) KX G hmg c
    exact ⟨K, fd, _, KX, hb, fun H a ns hl hO hS => DL.law_start hO hS (K00.law_true ns hl), hF⟩
