import PyProof.Rows.All
import Wide.All
import OpenK.AllK
import Wide.FinOn
import HandS.ForMost
import HandS.Exc
import HandS.WordsExc
import HandS.CallSlots
import HandS.Walk
import HandS.Style
import HandS.Wide
import HandS.IsInst
import HandS.FStr
import HandS.TupAny
import HandS.Deep
import HandS.Zip
import HandS.Conv
import HandS.Flow
import HandS.Defaults
import HandS.Head0
import HandS.Head1
import HandS.Head2
import HandS.HeadEnd
import HandS.HeadHook1
import HandS.HeadHook2
import KE.GoesEnum
import PyProof.Rows.EnumRows
import PySem.Challenge.RW_cheapathand_k12_what_is_mixed_and_paid
set_option Elab.async false
set_option linter.all false
set_option maxRecDepth 100000
set_option maxHeartbeats 4000000
namespace DL
open PySem PySem.Spec PyProof.Rows L2

/-! ### values as trees, objects that change in a store -/
inductive D where
  | non | bl (b : Bool) | int (i : Int) | str (x : Str) | tup (xs : List D) | ref (n : Nat)

inductive Ob where
  | lst (xs : List D)
  | fix (xs : List D)
  | ins (C : Addr) (fs : List (Str × D))

abbrev Sto := List Ob
abbrev Ev := List (Option D)
structure DX where
  cls : Value
  fs : Option (List (Str × D))
abbrev RD := D → Sto → Prop
abbrev RX := DX → Sto → Prop
abbrev TD := RX → Ev → Sto → RD → Prop
abbrev TDT := RX → Ev → Sto → (Bool → Sto → Prop) → Prop
abbrev TDA := RX → Ev → Sto → (List D → Sto → Prop) → Prop
structure DEnds where
  nx : Ev → Sto → Prop
  rt : RD
  bk : Ev → Sto → Prop
  ct : Ev → Sto → Prop
  ex : DX → Ev → Sto → Prop
abbrev TDS := DEnds → Ev → Sto → Prop
abbrev DSp := List D → Sto → RD → RX → Prop

/-- a fork, held shut -/
inductive ift (b : Bool) (A B : Prop) : Prop
  | t (e : b = true) (h : A)
  | f (e : b = false) (h : B)
theorem ift_t {A B : Prop} (h : ift true A B) : A := by
  cases h with
  | t _ h => exact h
  | f e _ => cases e
theorem ift_f {A B : Prop} (h : ift false A B) : B := by
  cases h with
  | t e _ => cases e
  | f _ h => exact h
theorem ifT {b : Bool} {A B : Prop} (e : b = true) (h : A) : ift b A B := .t e h
theorem ifF {b : Bool} {A B : Prop} (e : b = false) (h : B) : ift b A B := .f e h
theorem ifB {b : Bool} {A B : Prop} (h1 : b = true → A) (h2 : b = false → B) : ift b A B := by
  cases b
  · exact ifF rfl (h2 rfl)
  · exact ifT rfl (h1 rfl)
/-! ### how values and objects are laid -/
section
variable (K : PySem.W.Frag) (H : Hp) (μ : List Addr)
mutual
inductive Rep : D → V → Prop
  | non : Rep .non .non
  | bl (b : Bool) : Rep (.bl b) (.bl b)
  | int (i : Int) : Rep (.int i) (.int i)
  | str (x : Str) : Rep (.str x) (.str x)
  | tup {a : Addr} {vs : List V} {ds : List D} : SqT K H a vs → Reps ds vs → Rep (.tup ds) (.ref a)
  | ref {n : Nat} {a : Addr} : μ[n]? = some a → Rep (.ref n) (.ref a)
inductive Reps : List D → List V → Prop
  | nil : Reps [] []
  | cons {d : D} {v : V} {ds : List D} {vs : List V} : Rep d v → Reps ds vs → Reps (d :: ds) (v :: vs)
end
abbrev RepF : List (Str × D) → List (Str × V) → Prop := Paired fun p q => p.1 = q.1 ∧ Rep K H μ p.2 q.2
def FixL (a : Addr) (xs : List V) : Prop :=
  (∃ o, H a = some (.frz o (.lst xs))) ∨
    ∃ (o : Obj) (its : Array Value) (n : Nat), K.lookup a = some o ∧ o.cls = .type "list" ∧ o.dict = none ∧ o.data = .seq its n ∧ its.size ≤ sizeLine ∧ Vals xs its.toList
def RepO (a : Addr) : Ob → Prop
  | .lst ds => ∃ vs, H a = some (.lst vs) ∧ Reps K H μ ds vs
  | .fix ds => ∃ vs, FixL K H a vs ∧ Reps K H μ ds vs
  | .ins C fs => ∃ dx gs, H a = some (.ins C dx gs) ∧ RepF K H μ fs gs
def RepX (x : DX) (cls : Value) (d : Option Addr) : Prop := cls = x.cls ∧ match x.fs with
  | none => d = none
  | some fs => ∃ dd gs, d = some dd ∧ H dd = some (.xd gs) ∧ RepF K H μ fs gs
end
def isFix : Option Ob → Bool
  | some (.fix _) => true
  | _ => false
structure Ext (K : PySem.W.Frag) (H : Hp) (μ : List Addr) (H' : Hp) (μ' : List Addr) : Prop where
  mu : ∀ (i : Nat) a, μ[i]? = some a → μ'[i]? = some a
  tup : ∀ a xs, SqT K H a xs → SqT K H' a xs
  frz : ∀ a o u, H a = some (.frz o u) → H' a = some (.frz o u)
structure Sim (K : PySem.W.Frag) (H : Hp) (μ : List Addr) (S : Sto) : Prop where
  len : μ.length = S.length
  inj : ∀ (i j : Nat) a, μ[i]? = some a → μ[j]? = some a → isFix S[i]? = false → isFix S[j]? = false → i = j
  ob : ∀ (i : Nat) a o, μ[i]? = some a → S[i]? = some o → RepO K H μ a o
structure RepE (K : PySem.W.Frag) (H : Hp) (μ : List Addr) (ρ : Ev) (σ : L2.St) : Prop where
  len : σ.length = ρ.length
  at_ : ∀ (i : Nat) d, ρ[i]? = some (some d) → ∃ v, σ[i]? = some (some v) ∧ Rep K H μ d v
structure At (K : PySem.W.Frag) (σ : L2.St) (H : Hp) (ρ : Ev) (μ : List Addr) (S : Sto) : Prop where
  env : RepE K H μ ρ σ
  sim : Sim K H μ S
section
variable {K : PySem.W.Frag} {H H' H'' : Hp} {μ μ' μ'' : List Addr} {S : Sto}
theorem Ext.refl : Ext K H μ H μ := ⟨fun _ _ h => h, fun _ _ h => h, fun _ _ _ h => h⟩
theorem Ext.trans (a : Ext K H μ H' μ') (b : Ext K H' μ' H'' μ'') : Ext K H μ H'' μ'' :=
  ⟨fun i x h => b.mu i x (a.mu i x h), fun i x h => b.tup i x (a.tup i x h), fun i x u h => b.frz i x u (a.frz i x u h)⟩
mutual
theorem Rep.mono (e : Ext K H μ H' μ') : ∀ {d v}, Rep K H μ d v → Rep K H' μ' d v
  | _, _, .non => .non
  | _, _, .bl b => .bl b
  | _, _, .int i => .int i
  | _, _, .str x => .str x
  | _, _, .tup h r => .tup (e.tup _ _ h) (Reps.mono e r)
  | _, _, .ref h => .ref (e.mu _ _ h)
theorem Reps.mono (e : Ext K H μ H' μ') : ∀ {ds vs}, Reps K H μ ds vs → Reps K H' μ' ds vs
  | _, _, .nil => .nil
  | _, _, .cons h r => .cons (Rep.mono e h) (Reps.mono e r)
end
theorem RepF.mono (e : Ext K H μ H' μ') : ∀ {fs gs}, RepF K H μ fs gs → RepF K H' μ' fs gs
  | _, _, .nil => .nil
  | _, _, .cons h r => .cons ⟨h.1, h.2.mono e⟩ (RepF.mono e r)
theorem RepE.mono {ρ : Ev} {σ : L2.St} (r : RepE K H μ ρ σ) (e : Ext K H μ H' μ') : RepE K H' μ' ρ σ :=
  ⟨r.len, fun i d h => let ⟨v, h1, h2⟩ := r.at_ i d h; ⟨v, h1, h2.mono e⟩⟩
theorem FixL.mono (e : Ext K H μ H' μ') {a : Addr} {xs : List V} (h : FixL K H a xs) : FixL K H' a xs := by
  rcases h with ⟨o, h⟩ | h
  · exact .inl ⟨o, e.frz _ _ _ h⟩
  · exact .inr h
theorem FixL.sql {a : Addr} {xs : List V} (h : FixL K H a xs) : SqL K H a xs := by
  rcases h with ⟨o, h⟩ | h
  · exact .inl (.inr ⟨o, h⟩)
  · exact .inr h
theorem Reps.length {ds : List D} {vs : List V} (r : Reps K H μ ds vs) : ds.length = vs.length := by
  induction ds generalizing vs with
  | nil => cases r; rfl
  | cons d ds ih => cases r with | cons h t => simp [ih t]
theorem Reps.get : ∀ {ds : List D} {vs : List V} {i : Nat} {d : D}, Reps K H μ ds vs → ds[i]? = some d → ∃ v, vs[i]? = some v ∧ Rep K H μ d v
  | _, _, _, _, .nil, e => by simp at e
  | _, _, 0, _, .cons r _, e => by simp at e; subst e; exact ⟨_, rfl, r⟩
  | _, _, i + 1, x, .cons _ t, e => by
    obtain ⟨u, h1, h2⟩ := Reps.get (i := i) (d := x) t (by simpa using e)
    exact ⟨u, by simpa using h1, h2⟩
theorem Reps.getV : ∀ {ds : List D} {vs : List V} {i : Nat} {v : V}, Reps K H μ ds vs → vs[i]? = some v → ∃ d, ds[i]? = some d ∧ Rep K H μ d v
  | _, _, _, _, .nil, e => by simp at e
  | _, _, 0, _, .cons r _, e => by simp at e; subst e; exact ⟨_, rfl, r⟩
  | _, _, i + 1, x, .cons _ t, e => by
    obtain ⟨u, h1, h2⟩ := Reps.getV (i := i) (v := x) t (by simpa using e)
    exact ⟨u, by simpa using h1, h2⟩
theorem Reps.append : ∀ {ds es : List D} {vs us : List V}, Reps K H μ ds vs → Reps K H μ es us → Reps K H μ (ds ++ es) (vs ++ us)
  | _, _, _, _, .nil, s => s
  | _, _, _, _, .cons r t, s => .cons r (Reps.append t s)
theorem Reps.take : ∀ {ds : List D} {vs : List V} (n : Nat), Reps K H μ ds vs → Reps K H μ (ds.take n) (vs.take n)
  | _, _, 0, _ => .nil
  | _, _, _ + 1, .nil => .nil
  | _, _, n + 1, .cons r t => .cons r (Reps.take n t)
theorem Reps.drop : ∀ {ds : List D} {vs : List V} (n : Nat), Reps K H μ ds vs → Reps K H μ (ds.drop n) (vs.drop n)
  | _, _, 0, r => r
  | _, _, _ + 1, .nil => .nil
  | _, _, n + 1, .cons _ t => Reps.drop n t
theorem Reps.set {d : D} {v : V} (r : Rep K H μ d v) : ∀ {ds : List D} {vs : List V} (i : Nat), Reps K H μ ds vs → Reps K H μ (ds.set i d) (vs.set i v)
  | _, _, _, .nil => .nil
  | _, _, 0, .cons _ t => .cons r t
  | _, _, i + 1, .cons q t => .cons q (Reps.set r i t)
theorem Reps.reverse {ds : List D} {vs : List V} (r : Reps K H μ ds vs) : Reps K H μ ds.reverse vs.reverse := by
  induction ds generalizing vs with
  | nil => cases r; exact .nil
  | cons d ds ih => cases r with
    | cons h t => rw [List.reverse_cons, List.reverse_cons]; exact (ih t).append (.cons h .nil)
theorem Reps.dropLast {ds : List D} {vs : List V} (r : Reps K H μ ds vs) : Reps K H μ ds.dropLast vs.dropLast := by
  rw [List.dropLast_eq_take, List.dropLast_eq_take, r.length]
  exact r.take _
theorem Reps.ints : ∀ {ns : List Int} {vs : List V}, Reps K H μ (ns.map D.int) vs → vs = ns.map V.int
  | [], _, .nil => rfl
  | n :: ns, _, .cons h t => by cases h; rw [Reps.ints t]; rfl
theorem Reps.of_ints : ∀ ns : List Int, Reps K H μ (ns.map D.int) (ns.map V.int)
  | [] => .nil
  | n :: ns => .cons (.int n) (Reps.of_ints ns)
theorem Reps.strs : ∀ {ns : List Str} {vs : List V}, Reps K H μ (ns.map D.str) vs → vs = ns.map V.str
  | [], _, .nil => rfl
  | n :: ns, _, .cons h t => by cases h; rw [Reps.strs t]; rfl
theorem Reps.rep {ds : List D} {vs : List V} (r : Reps K H μ ds vs) : ∀ k : Nat, Reps K H μ (List.replicate k ds).flatten (List.replicate k vs).flatten
  | 0 => .nil
  | k + 1 => by rw [List.replicate_succ, List.replicate_succ, List.flatten_cons, List.flatten_cons]; exact r.append (Reps.rep r k)
/-- how an object's description is carried on -/
theorem RepO.mono (e : Ext K H μ H' μ') {a : Addr} {o : Ob} (h : RepO K H μ a o) (k : isFix (some o) = false → H' a = H a) : RepO K H' μ' a o := by
  cases o with
  | lst ds => obtain ⟨vs, h1, h2⟩ := h; exact ⟨vs, (k rfl).trans h1, h2.mono e⟩
  | fix ds => obtain ⟨vs, h1, h2⟩ := h; exact ⟨vs, h1.mono e, h2.mono e⟩
  | ins C fs => obtain ⟨dx, gs, h1, h2⟩ := h; exact ⟨dx, gs, (k rfl).trans h1, h2.mono e⟩
theorem RepO.there {a : Addr} {o : Ob} (h : RepO K H μ a o) (k : isFix (some o) = false) : ∃ u, H a = some u ∧ Mut (some u) := by
  cases o with
  | lst ds => obtain ⟨vs, h1, h2⟩ := h; exact ⟨_, h1, trivial⟩
  | fix ds => cases k
  | ins C fs => obtain ⟨dx, gs, h1, h2⟩ := h; exact ⟨_, h1, trivial⟩
/-- a fresh place -/
theorem Ext.fresh {p : Addr} {o : HO} {μ' : List Addr} (hp : H p = none) (hm : ∀ (i : Nat) a, μ[i]? = some a → μ'[i]? = some a) : Ext K H μ (upd H p o) μ' := by
  refine ⟨hm, fun a xs h => ?_, fun a ob u h => ?_⟩
  · rcases h with (h | ⟨u, h⟩) | h
    · exact .inl (.inl (by rw [upd_ne (ne_of_none h hp)]; exact h))
    · exact .inl (.inr ⟨u, by rw [upd_ne (ne_of_none h hp)]; exact h⟩)
    · exact .inr h
  · rw [upd_ne (ne_of_none h hp)]; exact h
/-- a thing that changes is written -/
theorem Ext.write {p : Addr} {o u : HO} (hp : H p = some u) (mu : Mut (some u)) : Ext K H μ (upd H p o) μ := by
  have ne : ∀ a v, H a = some v → ¬ Mut (some v) → a ≠ p := fun a v h n e => by rw [e, hp] at h; cases h; exact n mu
  refine ⟨fun _ _ h => h, fun a xs h => ?_, fun a ob u h => ?_⟩
  · rcases h with (h | ⟨u, h⟩) | h
    · exact .inl (.inl (by rw [upd_ne (ne a _ h (fun z => z))]; exact h))
    · exact .inl (.inr ⟨u, by rw [upd_ne (ne a _ h (fun z => z))]; exact h⟩)
    · exact .inr h
  · rw [upd_ne (ne a _ h (fun z => z))]; exact h
/-- a new tuple (or any thing of which the store does not tell) -/
theorem Sim.tup {p : Addr} {o : HO} (s : Sim K H μ S) (hp : H p = none) : Sim K (upd H p o) μ S := by
  refine ⟨s.len, s.inj, fun i a ob h1 h2 => (s.ob i a ob h1 h2).mono (Ext.fresh hp fun _ _ h => h) fun hf => ?_⟩
  obtain ⟨u, h, _⟩ := (s.ob i a ob h1 h2).there hf
  exact upd_ne (ne_of_none h hp)
theorem get_snoc {α : Type} {l : List α} {x y : α} {i : Nat} (h : (l ++ [x])[i]? = some y) : l[i]? = some y ∨ (i = l.length ∧ x = y) := by
  rw [List.getElem?_append] at h
  split at h
  · exact .inl h
  · rename_i hn
    have : i - l.length = 0 := by
      cases e : i - l.length with
      | zero => rfl
      | succ k => rw [e] at h; simp at h
    rw [this] at h
    exact .inr ⟨by omega, by simpa using h⟩
theorem get_old {α : Type} {l r : List α} {x : α} {i : Nat} (h : l[i]? = some x) : (l ++ r)[i]? = some x := by
  rw [List.getElem?_append_left (List.getElem?_eq_some_iff.mp h).1]; exact h
/-- a new object -/
theorem Sim.new {p : Addr} {o : HO} {ob : Ob} (s : Sim K H μ S) (hp : H p = none) (r : RepO K (upd H p o) (μ ++ [p]) p ob) : Sim K (upd H p o) (μ ++ [p]) (S ++ [ob]) := by
  have hp' : H p = Option.none := hp
  refine ⟨by simp [s.len], fun i j a h1 h2 f1 f2 => ?_, fun i a ob' h1 h2 => ?_⟩
  · rcases get_snoc h1 with h1 | ⟨h1, e1⟩ <;> rcases get_snoc h2 with h2 | ⟨h2, e2⟩
    · have l1 : i < S.length := by rw [← s.len]; exact (List.getElem?_eq_some_iff.mp h1).1
      have l2 : j < S.length := by rw [← s.len]; exact (List.getElem?_eq_some_iff.mp h2).1
      rw [List.getElem?_append_left l1] at f1
      rw [List.getElem?_append_left l2] at f2
      exact s.inj i j a h1 h2 f1 f2
    · have l1 : i < S.length := by rw [← s.len]; exact (List.getElem?_eq_some_iff.mp h1).1
      rw [List.getElem?_append_left l1] at f1
      obtain ⟨ob1, e⟩ : ∃ ob1, S[i]? = some ob1 := ⟨S[i], List.getElem?_eq_getElem l1⟩
      rw [e] at f1
      obtain ⟨u, hu, _⟩ := (s.ob i a ob1 h1 e).there f1
      rw [← e2, hp] at hu; cases hu
    · have l2 : j < S.length := by rw [← s.len]; exact (List.getElem?_eq_some_iff.mp h2).1
      rw [List.getElem?_append_left l2] at f2
      obtain ⟨ob1, e⟩ : ∃ ob1, S[j]? = some ob1 := ⟨S[j], List.getElem?_eq_getElem l2⟩
      rw [e] at f2
      obtain ⟨u, hu, _⟩ := (s.ob j a ob1 h2 e).there f2
      rw [← e1, hp] at hu; cases hu
    · omega
  · rcases get_snoc h1 with h1 | ⟨h1, e1⟩
    · have l1 : i < S.length := by rw [← s.len]; exact (List.getElem?_eq_some_iff.mp h1).1
      rw [List.getElem?_append_left l1] at h2
      have q := s.ob i a ob' h1 h2
      refine q.mono (Ext.fresh hp fun _ _ h => get_old h) fun hf => ?_
      obtain ⟨u, hu, _⟩ := q.there hf
      exact upd_ne (ne_of_none hu hp)
    · have : (S ++ [ob])[i]? = some ob := by rw [h1, s.len]; simp
      rw [this] at h2; cases h2
      subst e1
      exact r
theorem Ext.new {p : Addr} {o : HO} (hp : H p = none) : Ext K H μ (upd H p o) (μ ++ [p]) := Ext.fresh hp fun _ _ h => get_old h
/-- an object written -/
theorem Sim.write {i : Nat} {a : Addr} {o : HO} {ob ob' : Ob} (s : Sim K H μ S) (hi : μ[i]? = some a) (hs : S[i]? = some ob) (f : isFix (some ob) = false) (f' : isFix (some ob') = false) (r : RepO K (upd H a o) μ a ob') : Sim K (upd H a o) μ (S.set i ob') := by
  have il : i < S.length := (List.getElem?_eq_some_iff.mp hs).1
  obtain ⟨u, hu, mu⟩ := (s.ob i a ob hi hs).there f
  have fx : ∀ j, isFix (S.set i ob')[j]? = isFix S[j]? := fun j => by
    by_cases e : j = i
    · subst e; rw [List.getElem?_set_self il, hs, f, f']
    · rw [List.getElem?_set_ne (Ne.symm e)]
  refine ⟨by simp [s.len], fun j k b h1 h2 f1 f2 => ?_, fun j b ob1 h1 h2 => ?_⟩
  · rw [fx] at f1 f2
    exact s.inj j k b h1 h2 f1 f2
  · by_cases e : j = i
    · subst e
      rw [List.getElem?_set_self il] at h2
      cases h2
      rw [hi] at h1; cases h1
      exact r
    · rw [List.getElem?_set_ne (Ne.symm e)] at h2
      have q := s.ob j b ob1 h1 h2
      refine q.mono (Ext.write hu mu) fun hf => upd_ne fun z => e ?_
      subst z
      exact s.inj j i b h1 hi (by rw [h2]; exact hf) (by rw [hs]; exact f)
theorem Ext.writeAt {i : Nat} {a : Addr} {o : HO} {ob : Ob} (s : Sim K H μ S) (hi : μ[i]? = some a) (hs : S[i]? = some ob) (f : isFix (some ob) = false) : Ext K H μ (upd H a o) μ := by
  obtain ⟨u, hu, mu⟩ := (s.ob i a ob hi hs).there f
  exact Ext.write hu mu
end

/-! ### readings over trees -/
def OkV (K : PySem.W.Frag) (H : Hp) (μ : List Addr) (R : RD) (Q : VK) : Prop := ∀ d S' v μ' H', R d S' → Ext K H μ H' μ' → Sim K H' μ' S' → Rep K H' μ' d v → Q v H'
def OkB (K : PySem.W.Frag) (H : Hp) (μ : List Addr) (R : Bool → Sto → Prop) (Q : Bool → Hp → Prop) : Prop := ∀ b S' μ' H', R b S' → Ext K H μ H' μ' → Sim K H' μ' S' → Q b H'
def OkA (K : PySem.W.Frag) (H : Hp) (μ : List Addr) (n : Nat) (R : List D → Sto → Prop) (Q : List V → Hp → Prop) : Prop := ∀ ds S' vs μ' H', ds.length = n → R ds S' → Ext K H μ H' μ' → Sim K H' μ' S' → Reps K H' μ' ds vs → Q vs H'
def OkX (K : PySem.W.Frag) (H : Hp) (μ : List Addr) (R : RX) (E : XK) : Prop := ∀ x S' cls dx μ' H', R x S' → Ext K H μ H' μ' → Sim K H' μ' S' → RepX K H' μ' x cls dx → E cls dx H'
section
variable {K : PySem.W.Frag} {H H' : Hp} {μ μ' : List Addr}
theorem OkV.ext {R : RD} {Q : VK} (o : OkV K H μ R Q) (e : Ext K H μ H' μ') : OkV K H' μ' R Q := fun d S' v μ2 H2 h e2 => o d S' v μ2 H2 h (e.trans e2)
theorem OkB.ext {R : Bool → Sto → Prop} {Q : Bool → Hp → Prop} (o : OkB K H μ R Q) (e : Ext K H μ H' μ') : OkB K H' μ' R Q := fun d S' μ2 H2 h e2 => o d S' μ2 H2 h (e.trans e2)
theorem OkA.ext {n : Nat} {R : List D → Sto → Prop} {Q : List V → Hp → Prop} (o : OkA K H μ n R Q) (e : Ext K H μ H' μ') : OkA K H' μ' n R Q := fun d S' v μ2 H2 l h e2 => o d S' v μ2 H2 l h (e.trans e2)
theorem OkX.ext {R : RX} {E : XK} (o : OkX K H μ R E) (e : Ext K H μ H' μ') : OkX K H' μ' R E := fun d S' c dx μ2 H2 h e2 => o d S' c dx μ2 H2 h (e.trans e2)
end
abbrev wAt (W : WX) (σ : L2.St) : XK := fun c d H => W c d σ H
def dE (K : PySem.W.Frag) (W : WX) (t : TD) : TE := fun σ H Q => ∃ ρ μ S R Rx, At K σ H ρ μ S ∧ t Rx ρ S R ∧ OkV K H μ R Q ∧ OkX K H μ Rx (wAt W σ)
def dT (K : PySem.W.Frag) (W : WX) (t : TDT) : TT := fun σ H Q => ∃ ρ μ S R Rx, At K σ H ρ μ S ∧ t Rx ρ S R ∧ OkB K H μ R Q ∧ OkX K H μ Rx (wAt W σ)
def dA (K : PySem.W.Frag) (W : WX) (n : Nat) (t : TDA) : TA := fun σ H Q => ∃ ρ μ S R Rx, At K σ H ρ μ S ∧ t Rx ρ S R ∧ OkA K H μ n R Q ∧ OkX K H μ Rx (wAt W σ)
structure EndsOk (K : PySem.W.Frag) (W : WX) (H : Hp) (μ : List Addr) (E : DEnds) (Z : Ends) : Prop where
  nx : ∀ ρ' S' σ' μ' H', E.nx ρ' S' → Ext K H μ H' μ' → At K σ' H' ρ' μ' S' → Z.nx σ' H'
  rt : ∀ d S' v μ' H', E.rt d S' → Ext K H μ H' μ' → Sim K H' μ' S' → Rep K H' μ' d v → Z.rt v H'
  bk : ∀ ρ' S' σ' μ' H', E.bk ρ' S' → Ext K H μ H' μ' → At K σ' H' ρ' μ' S' → Z.bk σ' H'
  ct : ∀ ρ' S' σ' μ' H', E.ct ρ' S' → Ext K H μ H' μ' → At K σ' H' ρ' μ' S' → Z.ct σ' H'
  ex : ∀ x ρ' S' cls dx σ' μ' H', E.ex x ρ' S' → Ext K H μ H' μ' → At K σ' H' ρ' μ' S' → RepX K H' μ' x cls dx → W cls dx σ' H'
def dS (K : PySem.W.Frag) (W : WX) (t : TDS) : TS := fun Z σ H => ∃ ρ μ S E, At K σ H ρ μ S ∧ t E ρ S ∧ EndsOk K W H μ E Z
def dSp (K : PySem.W.Frag) (n : Nat) (sp : DSp) : Sp := fun vs H Q E => ∃ ds μ S R Rx, Sim K H μ S ∧ Reps K H μ ds vs ∧ ds.length = n ∧ sp ds S R Rx ∧ OkV K H μ R Q ∧ OkX K H μ Rx E
theorem EndsOk.ext {K : PySem.W.Frag} {W : WX} {H H' : Hp} {μ μ' : List Addr} {E : DEnds} {Z : Ends} (k : EndsOk K W H μ E Z) (e : Ext K H μ H' μ') : EndsOk K W H' μ' E Z :=
  ⟨fun _ _ _ _ _ h e2 => k.nx _ _ _ _ _ h (e.trans e2), fun _ _ _ _ _ h e2 => k.rt _ _ _ _ _ h (e.trans e2), fun _ _ _ _ _ h e2 => k.bk _ _ _ _ _ h (e.trans e2),
   fun _ _ _ _ _ h e2 => k.ct _ _ _ _ _ h (e.trans e2), fun _ _ _ _ _ _ _ _ h e2 => k.ex _ _ _ _ _ _ _ _ h (e.trans e2)⟩
/-- what is wanted of an exception within an expression of a statement -/
theorem EndsOk.x {K : PySem.W.Frag} {W : WX} {H : Hp} {μ : List Addr} {E : DEnds} {Z : Ends} {σ : L2.St} {ρ : Ev} (k : EndsOk K W H μ E Z) (r : RepE K H μ ρ σ) : OkX K H μ (fun x S => E.ex x ρ S) (wAt W σ) :=
  fun x S' cls dx μ' H' h e s rx => k.ex x ρ S' cls dx σ μ' H' h e ⟨r.mono e, s⟩ rx

theorem _root_.L2.PE.imp {X : Cx} {e : Expr} {t t' : TE} (h : PE X e t) (i : ∀ σ H Q, t' σ H Q → t σ H Q) : PE X e t' := ⟨fun pins s σ H Q I q => h.run pins s σ H Q I (i σ H Q q)⟩
theorem _root_.L2.PT.imp {X : Cx} {e : Expr} {t t' : TT} (h : PT X e t) (i : ∀ σ H Q, t' σ H Q → t σ H Q) : PT X e t' := ⟨fun pins s σ H Q I q => h.run pins s σ H Q I (i σ H Q q)⟩
theorem _root_.L2.PA.imp {X : Cx} {e : List Expr} {t t' : TA} (h : PA X e t) (i : ∀ σ H Q, t' σ H Q → t σ H Q) : PA X e t' := ⟨fun pos pins s σ H Q I q => h.run pos pins s σ H Q I (i σ H Q q)⟩
theorem _root_.L2.PS.imp {X : Cx} {e : Stmt} {t t' : TS} (h : PS X e t) (i : ∀ D σ H, t' D σ H → t D σ H) : PS X e t' := ⟨fun pins s σ H D I q => h.run pins s σ H D I (i D σ H q)⟩
theorem _root_.L2.PSs.imp {X : Cx} {e : List Stmt} {t t' : TS} (h : PSs X e t) (i : ∀ D σ H, t' D σ H → t D σ H) : PSs X e t' := ⟨fun pins s σ H D I q => h.run pins s σ H D I (i D σ H q)⟩

/-! ### the store's lists, looked at (what they unfold to is told by lst_at, fix_at, mlst_at alone) -/
inductive lstAt (n : Nat) (S : Sto) (k : List D → Prop) : Prop
  | mk (xs : List D) (h : S[n]? = some (.lst xs) ∨ S[n]? = some (.fix xs)) (hk : k xs)
inductive mlstAt (n : Nat) (S : Sto) (k : List D → Prop) : Prop
  | mk (xs : List D) (h : S[n]? = some (.lst xs)) (hk : k xs)
inductive iterAt (n : Nat) (S : Sto) (k : List D → (Sto → Prop) → Prop) : Prop
  | lst (xs : List D) (h : S[n]? = some (.lst xs)) (hk : k xs fun S => S[n]? = some (.lst xs))
  | fix (xs : List D) (h : S[n]? = some (.fix xs)) (hk : k xs fun S => S[n]? = some (.fix xs))
section
variable {n : Nat} {S : Sto} {xs : List D} {k : List D → Prop} {j : List D → (Sto → Prop) → Prop}
theorem lst_at (h : S[n]? = some (.lst xs)) (hk : k xs) : lstAt n S k := .mk xs (.inl h) hk
theorem fix_at (h : S[n]? = some (.fix xs)) (hk : k xs) : lstAt n S k := .mk xs (.inr h) hk
theorem mlst_at (h : S[n]? = some (.lst xs)) (hk : k xs) : mlstAt n S k := .mk xs h hk
theorem iter_at (h : S[n]? = some (.lst xs)) (hk : j xs fun S => S[n]? = some (.lst xs)) : iterAt n S j := .lst xs h hk
theorem iter_fix (h : S[n]? = some (.fix xs)) (hk : j xs fun S => S[n]? = some (.fix xs)) : iterAt n S j := .fix xs h hk
theorem lst_inv (h : lstAt n S k) : ∃ xs, (S[n]? = some (.lst xs) ∨ S[n]? = some (.fix xs)) ∧ k xs := by
  cases h with | mk xs h hk => exact ⟨xs, h, hk⟩
theorem mlst_inv (h : mlstAt n S k) : ∃ xs, S[n]? = some (.lst xs) ∧ k xs := by
  cases h with | mk xs h hk => exact ⟨xs, h, hk⟩
theorem iter_inv (h : iterAt n S j) : ∃ xs, (S[n]? = some (.lst xs) ∧ j xs fun S => S[n]? = some (.lst xs)) ∨ (S[n]? = some (.fix xs) ∧ j xs fun S => S[n]? = some (.fix xs)) := by
  cases h with
  | lst xs h hk => exact ⟨xs, .inl ⟨h, hk⟩⟩
  | fix xs h hk => exact ⟨xs, .inr ⟨h, hk⟩⟩
theorem Sim.lstR {K : PySem.W.Frag} {H : Hp} {μ : List Addr} {p : Addr} (s : Sim K H μ S) (h : μ[n]? = some p) (e : S[n]? = some (.lst xs) ∨ S[n]? = some (.fix xs)) : ∃ vs, SqL K H p vs ∧ Reps K H μ xs vs := by
  rcases e with e | e
  · obtain ⟨vs, hv, q⟩ := s.ob n p _ h e
    exact ⟨vs, SqL.of hv, q⟩
  · obtain ⟨vs, hv, q⟩ := s.ob n p _ h e
    exact ⟨vs, hv.sql, q⟩
end
/-- the item at a place -/
inductive ixAt (xs : List D) (i : Int) (k : D → Prop) : Prop
  | mk (d : D) (h : L2.atI xs i = some d) (hk : k d)
theorem ix_at {xs : List D} {i : Int} {k : D → Prop} {d : D} (h : L2.atI xs i = some d) (hk : k d) : ixAt xs i k := .mk d h hk
theorem ix_inv {xs : List D} {i : Int} {k : D → Prop} (h : ixAt xs i k) : ∃ d, L2.atI xs i = some d ∧ k d := by
  cases h with | mk d h hk => exact ⟨d, h, hk⟩
end DL
namespace DL
open PySem PySem.Spec PyProof.Rows L2

abbrev OD := D → D → Sto → RD → Prop
abbrev OU := D → Sto → RD → Prop
abbrev OC := List D → Sto → RD → Prop
/-! ### readings -/
def eVar (i : Nat) : TD := fun _ ρ S R => match ρ[i]? with
  | some (some d) => R d S
  | _ => False
def eC (d : D) : TD := fun _ _ S R => R d S
def e1 (f : OU) (ta : TD) : TD := fun Rx ρ S R => ta Rx ρ S fun x S1 => f x S1 R
def e2 (f : OD) (ta tb : TD) : TD := fun Rx ρ S R => ta Rx ρ S fun x S1 => tb Rx ρ S1 fun y S2 => f x y S2 R
def aNil : TDA := fun _ _ S R => R [] S
def aCons (ta : TD) (tr : TDA) : TDA := fun Rx ρ S R => ta Rx ρ S fun x S1 => tr Rx ρ S1 fun xs S2 => R (x :: xs) S2
def eTup (t : TDA) : TD := fun Rx ρ S R => t Rx ρ S fun xs S1 => xs.length ≤ sizeLine ∧ R (.tup xs) S1
def eLst (t : TDA) : TD := fun Rx ρ S R => t Rx ρ S fun xs S1 => xs.length ≤ sizeLine ∧ R (.ref S1.length) (S1 ++ [.lst xs])
def eB (f : OC) (t : TDA) : TD := fun Rx ρ S R => t Rx ρ S fun xs S1 => f xs S1 R
/-- a call, held shut -/
inductive Cal (sp : DSp) (xs : List D) (S : Sto) (R : RD) (Rx : RX) : Prop
  | mk (h : sp xs S R Rx)
theorem Cal.out {sp : DSp} {xs : List D} {S : Sto} {R : RD} {Rx : RX} (h : Cal sp xs S R Rx) : sp xs S R Rx := by
  cases h with | mk h => exact h
def eCall (sp : DSp) (t : TDA) : TD := fun Rx ρ S R => t Rx ρ S fun xs S1 => Cal sp xs S1 R Rx
def pick {α : Type} (π : List Nat) (l : List α) : List α := π.filterMap fun i => l[i]?
def eCallK (sp : DSp) (π : List Nat) (t tk : TDA) : TD := fun Rx ρ S R => t Rx ρ S fun xs S1 => tk Rx ρ S1 fun zs S2 => Cal sp (pick π (xs ++ zs)) S2 R Rx
/-- the truth of a value -/
def truD (d : D) (S : Sto) (R : Bool → Prop) : Prop := match d with
  | .non => R false
  | .bl b => R b
  | .int i => R (i != 0)
  | .str x => x.length ≤ sizeLine ∧ R ((x.length : Int) != 0)
  | .tup xs => R (!xs.isEmpty)
  | .ref n => lstAt n S fun xs => R (!xs.isEmpty)
def tTru (t : TD) : TDT := fun Rx ρ S R => t Rx ρ S fun d S1 => truD d S1 fun b => R b S1
def tAndD (t u : TDT) : TDT := fun Rx ρ S R => t Rx ρ S fun b S1 => ift b (u Rx ρ S1 R) (R false S1)
def tOrD (t u : TDT) : TDT := fun Rx ρ S R => t Rx ρ S fun b S1 => ift b (R true S1) (u Rx ρ S1 R)
def tNotD (t : TDT) : TDT := fun Rx ρ S R => t Rx ρ S fun b S1 => R (!b) S1
def eAnd (ta tb : TD) : TD := fun Rx ρ S R => ta Rx ρ S fun x S1 => truD x S1 fun b => ift b (tb Rx ρ S1 R) (R x S1)
def eOr (ta tb : TD) : TD := fun Rx ρ S R => ta Rx ρ S fun x S1 => truD x S1 fun b => ift b (R x S1) (tb Rx ρ S1 R)
def eNot (ta : TD) : TD := fun Rx ρ S R => ta Rx ρ S fun x S1 => truD x S1 fun b => R (.bl (!b)) S1
def eIf (c : TDT) (ta tb : TD) : TD := fun Rx ρ S R => c Rx ρ S fun b S1 => ift b (ta Rx ρ S1 R) (tb Rx ρ S1 R)

section
variable {X : Cx} {W : WX} {a b c : Expr} {ta tb : TD} {tc td : TDT} {pos : Pos} {es rest : List Expr} {tr : TDA}

theorem de_var (i : Nat) {x : Str} {pos : Pos} (hN : X.N[i]? = some x := by rfl) (hv : Vis X.env.scope x := by first | exact Or.inl rfl | exact Or.inr (Or.inl rfl) | exact Or.inr (Or.inr rfl)) (hd : (x == ("__debug__" : Str)) = false := by decide)
    (hcd : (x == ("__classdict__" : Str)) = false := by decide) : PE X (.Name x pos) (dE X.K W (eVar i)) :=
  (pe_var hN hv hd hcd).imp fun σ H Q ⟨ρ, μ, S, R, Rx, at_, h, ok, ox⟩ => by
    unfold eVar at h
    split at h
    · rename_i d e
      obtain ⟨v, h1, h2⟩ := at_.env.at_ i d e
      exact ⟨v, h1, ok _ _ _ _ _ h Ext.refl at_.sim h2⟩
    · exact h.elim
theorem de_C {v : V} {d : D} {e : Expr} (he : PE X e (tC v)) (hr : ∀ H μ, Rep X.K H μ d v) : PE X e (dE X.K W (eC d)) :=
  he.imp fun σ H Q ⟨ρ, μ, S, R, Rx, at_, h, ok, ox⟩ => ok _ _ _ _ _ h Ext.refl at_.sim (hr _ _)
theorem de_int {i j pos} : PE X (.Constant (.int i) j pos) (dE X.K W (eC (.int i))) := de_C pe_int fun _ _ => .int i
theorem de_bl {i j pos} : PE X (.Constant (.bool i) j pos) (dE X.K W (eC (.bl i))) := de_C pe_bl fun _ _ => .bl i
theorem de_non {j pos} : PE X (.Constant .none j pos) (dE X.K W (eC .non)) := de_C pe_non fun _ _ => .non
theorem de_str {i j pos} : PE X (.Constant (.str i) j pos) (dE X.K W (eC (.str i))) := de_C pe_str fun _ _ => .str i
/-- a constant of the module -/
theorem de_glob {x : Str} {v : V} {u : Value} {d : D} {pos : Pos} (hm : X.mg x = some u) (r : RelV v u) (hr : ∀ H μ, Rep X.K H μ d v) (hg : Gl X x := by rfl) (hd : (x == ("__debug__" : Str)) = false := by decide) : PE X (.Name x pos) (dE X.K W (eC d)) :=
  de_C (pe_glob hg hm r hd) hr

/-! ### two values -/
def Br2 (K : PySem.W.Frag) (r : R2) (f : OD) : Prop := ∀ x y S R vx vy μ H Q, Sim K H μ S → Rep K H μ x vx → Rep K H μ y vy → f x y S R → OkV K H μ R Q → r vx vy H Q
def Br1 (K : PySem.W.Frag) (r : V → Hp → VK → Prop) (f : OU) : Prop := ∀ x S R vx μ H Q, Sim K H μ S → Rep K H μ x vx → f x S R → OkV K H μ R Q → r vx H Q
def BrC (K : PySem.W.Frag) (r : List V → Hp → VK → Prop) (f : OC) : Prop := ∀ xs S R vs μ H Q, Sim K H μ S → Reps K H μ xs vs → f xs S R → OkV K H μ R Q → r vs H Q
theorem seq2 {K : PySem.W.Frag} {r : R2} {f : OD} (br : Br2 K r f) {σ : L2.St} {H : Hp} {Q : VK} (h : dE K W (e2 f ta tb) σ H Q) : tOp r (dE K W ta) (dE K W tb) σ H Q := by
  obtain ⟨ρ, μ, S, R, Rx, at_, h, ok, ox⟩ := h
  refine ⟨ρ, μ, S, _, Rx, at_, h, fun x S1 vx μ1 H1 h1 e1 s1 r1 => ?_, ox⟩
  refine ⟨ρ, μ1, S1, _, Rx, ⟨at_.env.mono e1, s1⟩, h1, fun y S2 vy μ2 H2 h2 e2 s2 r2 => ?_, ox.ext e1⟩
  exact br x y S2 R vx vy μ2 H2 Q s2 (r1.mono e2) r2 h2 (ok.ext (e1.trans e2))
theorem seq1 {K : PySem.W.Frag} {r : V → Hp → VK → Prop} {f : OU} (br : Br1 K r f) {σ : L2.St} {H : Hp} {Q : VK} (h : dE K W (e1 f ta) σ H Q) : tUn r (dE K W ta) σ H Q := by
  obtain ⟨ρ, μ, S, R, Rx, at_, h, ok, ox⟩ := h
  refine ⟨ρ, μ, S, _, Rx, at_, h, fun x S1 vx μ1 H1 h1 e1 s1 r1 => ?_, ox⟩
  exact br x S1 R vx μ1 H1 Q s1 r1 h1 (ok.ext e1)
theorem de_op {op : Operator} {r : R2} {f : OD} (ho : OpR X (binaryOp op) r) (br : Br2 X.K r f) (ha : PE X a (dE X.K W ta)) (hb : PE X b (dE X.K W tb)) : PE X (.BinOp a op b pos) (dE X.K W (e2 f ta tb)) :=
  (pe_op ho ha hb).imp fun _ _ _ h => seq2 br h
theorem de_un {op : UnaryOp} {r : V → Hp → VK → Prop} {f : OU} (ho : UnR X (unaryOp op) r) (br : Br1 X.K r f) (ha : PE X a (dE X.K W ta)) : PE X (.UnaryOp op a pos) (dE X.K W (e1 f ta)) :=
  (pe_un ho ha).imp fun _ _ _ h => seq1 br h
theorem de_cmp {op : CmpOp} {r : R2} {f : OD} (ho : OpR X (compareOp op) r) (br : Br2 X.K r f) (ha : PE X a (dE X.K W ta)) (hb : PE X b (dE X.K W tb)) (hm : behindInMarks op b = false) : PE X (.Compare a [op] [b] pos) (dE X.K W (e2 f ta tb)) :=
  (pe_cmpR ho ha hb hm).imp fun _ _ _ h => seq2 br h
theorem dt_cmp {op : CmpOp} {r : R2} {f : OD} (ho : OpR X (compareOp op) r) (br : Br2 X.K r f) (hf : ∀ x y S R, f x y S R → f x y S fun d S' => R d S' ∧ ∃ k, d = .bl k) (ha : PE X a (dE X.K W ta)) (hb : PE X b (dE X.K W tb)) (hm : behindInMarks op b = false) :
    PT X (.Compare a [op] [b] pos) (dT X.K W (tTru (e2 f ta tb))) := by
  refine (pt_cmpR ho ha hb hm).imp fun σ H Q h => ?_
  obtain ⟨ρ, μ, S, R, Rx, at_, h, ok, ox⟩ := h
  show tOp r (dE X.K W ta) (dE X.K W tb) σ H fun x H' => ∃ k, x = .bl k ∧ Q k H'
  refine ⟨ρ, μ, S, _, Rx, at_, h, fun x S1 vx μ1 H1 h1 e1 s1 r1 => ?_, ox⟩
  refine ⟨ρ, μ1, S1, _, Rx, ⟨at_.env.mono e1, s1⟩, h1, fun y S2 vy μ2 H2 h2 e2 s2 r2 => ?_, ox.ext e1⟩
  refine br x y S2 _ vx vy μ2 H2 _ s2 (r1.mono e2) r2 (hf _ _ _ _ h2) fun d S' v μ' H' hq e s r => ?_
  obtain ⟨hq, k, rfl⟩ := hq
  cases r
  exact ⟨k, rfl, ok _ _ _ _ hq ((e1.trans e2).trans e) s⟩
/-! ### ints, texts, tuples, lists -/
def addD : OD
  | .int i, .int j => fun S R => R (.int (i + j)) S
  | .str x, .str y => fun S R => x.length + y.length ≤ sizeLine ∧ R (.str (x ++ y)) S
  | .tup xs, .tup ys => fun S R => xs.length + ys.length ≤ sizeLine ∧ R (.tup (xs ++ ys)) S
  | .ref m, .ref n => fun S R => mlstAt m S fun xs => mlstAt n S fun ys => xs.length + ys.length ≤ sizeLine ∧ R (.ref S.length) (S ++ [.lst (xs ++ ys)])
  | _, _ => fun _ _ => False
abbrev rAddD (K : PySem.W.Frag) : R2 := fun x y H Q => rI0 (fun i j => .int (i + j)) x y H Q ∨ (fun x y H Q => (∃ i j, x = .str i ∧ y = .str j ∧ i.length + j.length ≤ sizeLine ∧ Q (.str (i ++ j)) H) ∨
  (fun x y H Q => rCatA K x y H Q ∨ rCat x y H Q) x y H Q) x y H Q
theorem op_addD : OpR X (binaryOp .Add) (rAddD X.K) := op_add.or (op_add_str.or (op_catA.or op_cat))
theorem Sim.lst {K : PySem.W.Frag} {H : Hp} {μ : List Addr} {S : Sto} {n : Nat} {p : Addr} {xs : List D} (s : Sim K H μ S) (h : μ[n]? = some p) (e : S[n]? = some (.lst xs)) : ∃ vs, H p = some (.lst vs) ∧ Reps K H μ xs vs := s.ob n p _ h e
theorem Sim.newLst {K : PySem.W.Frag} {H : Hp} {μ : List Addr} {S : Sto} {p : Addr} {xs : List D} {vs : List V} (s : Sim K H μ S) (hp : H p = none) (r : Reps K H μ xs vs) :
    Ext K H μ (upd H p (.lst vs)) (μ ++ [p]) ∧ Sim K (upd H p (.lst vs)) (μ ++ [p]) (S ++ [.lst xs]) ∧ Rep K (upd H p (.lst vs)) (μ ++ [p]) (.ref S.length) (.ref p) :=
  ⟨Ext.new hp, s.new hp ⟨vs, upd_same, r.mono (Ext.new hp)⟩, .ref (by rw [← s.len]; simp)⟩
theorem Sim.newTup {K : PySem.W.Frag} {H : Hp} {μ : List Addr} {S : Sto} {p : Addr} {xs : List D} {vs : List V} (s : Sim K H μ S) (hp : H p = none) (r : Reps K H μ xs vs) :
    Ext K H μ (upd H p (.tup vs)) μ ∧ Sim K (upd H p (.tup vs)) μ S ∧ Rep K (upd H p (.tup vs)) μ (.tup xs) (.ref p) :=
  have e : Ext K H μ (upd H p (.tup vs)) μ := Ext.fresh hp fun _ _ h => h
  ⟨e, s.tup hp, .tup (.inl (.inl upd_same)) (r.mono e)⟩
theorem Reps.nil_iff {K : PySem.W.Frag} {H : Hp} {μ : List Addr} {xs : List D} {vs : List V} (r : Reps K H μ xs vs) : xs = [] ↔ vs = [] := by
  have := r.length
  cases xs <;> cases vs <;> simp_all
theorem br_add : Br2 X.K (rAddD X.K) addD := by
  intro x y S R vx vy μ H Q s r1 r2 h ok
  unfold addD at h
  split at h
  · cases r1; cases r2
    exact .inl ⟨_, _, rfl, rfl, ok _ _ _ _ _ h Ext.refl s (.int _)⟩
  · cases r1; cases r2
    exact .inr (.inl ⟨_, _, rfl, rfl, h.1, ok _ _ _ _ _ h.2 Ext.refl s (.str _)⟩)
  · cases r1 with | tup t1 q1 =>
    cases r2 with | tup t2 q2 =>
    refine .inr (.inr (.inl ⟨_, _, _, _, rfl, rfl, t1, t2, by rw [← q1.length, ← q2.length]; exact h.1, fun e => ?_, fun e1 e2 => ?_, fun e1 e2 p hp => ?_⟩))
    · have e' := q1.nil_iff.mpr e
      subst e'
      exact ok _ _ _ _ _ h.2 Ext.refl s (.tup t2 q2)
    · have e' := q2.nil_iff.mpr e2
      subst e'
      rw [List.append_nil] at h
      exact ok _ _ _ _ _ h.2 Ext.refl s (.tup t1 q1)
    · obtain ⟨e, s', r⟩ := s.newTup hp (q1.append q2)
      exact ok _ _ _ _ _ h.2 e s' r
  · rename_i m n
    cases r1 with | ref p1 =>
    cases r2 with | ref p2 =>
    obtain ⟨xs, g1, h⟩ := mlst_inv h
    obtain ⟨ys, g2, h⟩ := mlst_inv h
    obtain ⟨vs, hv, qv⟩ := s.lst p1 g1
    obtain ⟨us, hu, qu⟩ := s.lst p2 g2
    refine .inr (.inr (.inr ⟨_, _, _, _, rfl, rfl, hv, hu, by rw [← qv.length, ← qu.length]; exact h.1, fun p hp => ?_⟩))
    obtain ⟨e, s', r⟩ := s.newLst hp (qv.append qu)
    exact ok _ _ _ _ _ h.2 e s' r
  · exact h.elim
theorem de_add (ha : PE X a (dE X.K W ta)) (hb : PE X b (dE X.K W tb)) : PE X (.BinOp a .Add b pos) (dE X.K W (e2 addD ta tb)) := de_op op_addD br_add ha hb
def subD : OD
  | .int i, .int j => fun S R => R (.int (i - j)) S
  | _, _ => fun _ _ => False
theorem br_sub : Br2 X.K (rI0 fun i j => .int (i - j)) subD := by
  intro x y S R vx vy μ H Q s r1 r2 h ok
  unfold subD at h
  split at h
  · cases r1; cases r2
    exact ⟨_, _, rfl, rfl, ok _ _ _ _ _ h Ext.refl s (.int _)⟩
  · exact h.elim
theorem de_sub (ha : PE X a (dE X.K W ta)) (hb : PE X b (dE X.K W tb)) : PE X (.BinOp a .Sub b pos) (dE X.K W (e2 subD ta tb)) := de_op op_sub br_sub ha hb
def mulD : OD
  | .int i, .int j => fun S R => i.natAbs.log2 + j.natAbs.log2 < 1000000 ∧ R (.int (i * j)) S
  | .ref m, .int k => fun S R => mlstAt m S fun xs => (-(2 ^ 63) ≤ k ∧ k < 2 ^ 63 ∧ xs.length * k.toNat ≤ sizeLine) ∧ R (.ref S.length) (S ++ [.lst (List.replicate k.toNat xs).flatten])
  | _, _ => fun _ _ => False
theorem br_mul : Br2 X.K (fun x y H Q => rI CMulW (fun i j => .int (i * j)) x y H Q ∨ rRep x y H Q) mulD := by
  intro x y S R vx vy μ H Q s r1 r2 h ok
  unfold mulD at h
  split at h
  · cases r1; cases r2
    exact .inl ⟨_, _, rfl, rfl, h.1, ok _ _ _ _ _ h.2 Ext.refl s (.int _)⟩
  · cases r1 with | ref p1 =>
    cases r2
    obtain ⟨xs, g1, h⟩ := mlst_inv h
    obtain ⟨vs, hv, qv⟩ := s.lst p1 g1
    obtain ⟨⟨h1, h2, h3⟩, h⟩ := h
    refine .inr ⟨_, _, _, rfl, rfl, hv, h1, h2, by rw [← qv.length]; exact h3, fun p hp => ?_⟩
    obtain ⟨e, s', r⟩ := s.newLst hp (qv.rep _)
    exact ok _ _ _ _ _ h e s' r
  · exact h.elim
theorem de_mul (ha : PE X a (dE X.K W ta)) (hb : PE X b (dE X.K W tb)) : PE X (.BinOp a .Mult b pos) (dE X.K W (e2 mulD ta tb)) := de_op (op_mulW.or op_rep) br_mul ha hb
def divD : OD
  | .int i, .int j => fun S R => (0 < j ∧ j.natAbs.log2 < 9000) ∧ R (.int (i / j)) S
  | _, _ => fun _ _ => False
theorem br_div : Br2 X.K (rI CDivW fun i j => .int (i / j)) divD := by
  intro x y S R vx vy μ H Q s r1 r2 h ok
  unfold divD at h
  split at h
  · cases r1; cases r2
    exact ⟨_, _, rfl, rfl, h.1, ok _ _ _ _ _ h.2 Ext.refl s (.int _)⟩
  · exact h.elim
theorem de_div (ha : PE X a (dE X.K W ta)) (hb : PE X b (dE X.K W tb)) : PE X (.BinOp a .FloorDiv b pos) (dE X.K W (e2 divD ta tb)) := de_op op_fdivW br_div ha hb
def modD : OD
  | .int i, .int j => fun S R => 0 < j ∧ R (.int (i % j)) S
  | _, _ => fun _ _ => False
theorem br_mod : Br2 X.K (rI (fun _ j => 0 < j) fun i j => .int (i % j)) modD := by
  intro x y S R vx vy μ H Q s r1 r2 h ok
  unfold modD at h
  split at h
  · cases r1; cases r2
    exact ⟨_, _, rfl, rfl, h.1, ok _ _ _ _ _ h.2 Ext.refl s (.int _)⟩
  · exact h.elim
theorem de_mod (ha : PE X a (dE X.K W ta)) (hb : PE X b (dE X.K W tb)) : PE X (.BinOp a .Mod b pos) (dE X.K W (e2 modD ta tb)) := de_op op_mod br_mod ha hb
def powD : OD
  | .int i, .int j => fun S R => (0 ≤ j ∧ j ≤ 1000000 ∧ i.natAbs < 2 ^ 64) ∧ R (.int (i ^ j.toNat)) S
  | _, _ => fun _ _ => False
theorem br_pow : Br2 X.K (rI CPow fun i j => .int (i ^ j.toNat)) powD := by
  intro x y S R vx vy μ H Q s r1 r2 h ok
  unfold powD at h
  split at h
  · cases r1; cases r2
    exact ⟨_, _, rfl, rfl, h.1, ok _ _ _ _ _ h.2 Ext.refl s (.int _)⟩
  · exact h.elim
theorem de_pow (ha : PE X a (dE X.K W ta)) (hb : PE X b (dE X.K W tb)) : PE X (.BinOp a .Pow b pos) (dE X.K W (e2 powD ta tb)) := de_op op_pow br_pow ha hb
def negD : OU
  | .int i => fun S R => R (.int (-i)) S
  | _ => fun _ _ => False
theorem br_neg : Br1 X.K (rU fun i => .int (-i)) negD := by
  intro x S R vx μ H Q s r1 h ok
  unfold negD at h
  split at h
  · cases r1
    exact ⟨_, rfl, ok _ _ _ _ _ h Ext.refl s (.int _)⟩
  · exact h.elim
theorem de_neg (ha : PE X a (dE X.K W ta)) : PE X (.UnaryOp .USub a pos) (dE X.K W (e1 negD ta)) := de_un un_neg br_neg ha

/-! ### comparisons -/
def ltD : OD
  | .int i, .int j => fun S R => R (.bl (decide (i < j))) S
  | _, _ => fun _ _ => False
def leD : OD
  | .int i, .int j => fun S R => R (.bl (decide (i ≤ j))) S
  | _, _ => fun _ _ => False
def gtD : OD
  | .int i, .int j => fun S R => R (.bl (decide (j < i))) S
  | _, _ => fun _ _ => False
def geD : OD
  | .int i, .int j => fun S R => R (.bl (decide (j ≤ i))) S
  | _, _ => fun _ _ => False
theorem br_lt : Br2 X.K (rI0 fun i j => .bl (decide (i < j))) ltD := by
  intro x y S R vx vy μ H Q s r1 r2 h ok
  unfold ltD at h
  split at h
  · cases r1; cases r2
    exact ⟨_, _, rfl, rfl, ok _ _ _ _ _ h Ext.refl s (.bl _)⟩
  · exact h.elim
theorem br_le : Br2 X.K (rI0 fun i j => .bl (decide (i ≤ j))) leD := by
  intro x y S R vx vy μ H Q s r1 r2 h ok
  unfold leD at h
  split at h
  · cases r1; cases r2
    exact ⟨_, _, rfl, rfl, ok _ _ _ _ _ h Ext.refl s (.bl _)⟩
  · exact h.elim
theorem br_gt : Br2 X.K (rI0 fun i j => .bl (decide (j < i))) gtD := by
  intro x y S R vx vy μ H Q s r1 r2 h ok
  unfold gtD at h
  split at h
  · cases r1; cases r2
    exact ⟨_, _, rfl, rfl, ok _ _ _ _ _ h Ext.refl s (.bl _)⟩
  · exact h.elim
theorem br_ge : Br2 X.K (rI0 fun i j => .bl (decide (j ≤ i))) geD := by
  intro x y S R vx vy μ H Q s r1 r2 h ok
  unfold geD at h
  split at h
  · cases r1; cases r2
    exact ⟨_, _, rfl, rfl, ok _ _ _ _ _ h Ext.refl s (.bl _)⟩
  · exact h.elim
theorem bl_lt : ∀ x y S (R : RD), ltD x y S R → ltD x y S fun d S' => R d S' ∧ ∃ k, d = .bl k := by
  intro x y S R h; unfold ltD at h ⊢; split at h <;> first | exact ⟨h, _, rfl⟩ | exact h.elim
theorem bl_le : ∀ x y S (R : RD), leD x y S R → leD x y S fun d S' => R d S' ∧ ∃ k, d = .bl k := by
  intro x y S R h; unfold leD at h ⊢; split at h <;> first | exact ⟨h, _, rfl⟩ | exact h.elim
theorem bl_gt : ∀ x y S (R : RD), gtD x y S R → gtD x y S fun d S' => R d S' ∧ ∃ k, d = .bl k := by
  intro x y S R h; unfold gtD at h ⊢; split at h <;> first | exact ⟨h, _, rfl⟩ | exact h.elim
theorem bl_ge : ∀ x y S (R : RD), geD x y S R → geD x y S fun d S' => R d S' ∧ ∃ k, d = .bl k := by
  intro x y S R h; unfold geD at h ⊢; split at h <;> first | exact ⟨h, _, rfl⟩ | exact h.elim
theorem de_lt (ha : PE X a (dE X.K W ta)) (hb : PE X b (dE X.K W tb)) : PE X (.Compare a [.Lt] [b] pos) (dE X.K W (e2 ltD ta tb)) := de_cmp op_lt br_lt ha hb (nomark _)
theorem de_le (ha : PE X a (dE X.K W ta)) (hb : PE X b (dE X.K W tb)) : PE X (.Compare a [.LtE] [b] pos) (dE X.K W (e2 leD ta tb)) := de_cmp op_le br_le ha hb (nomark _)
theorem de_gt (ha : PE X a (dE X.K W ta)) (hb : PE X b (dE X.K W tb)) : PE X (.Compare a [.Gt] [b] pos) (dE X.K W (e2 gtD ta tb)) := de_cmp op_gt br_gt ha hb (nomark _)
theorem de_ge (ha : PE X a (dE X.K W ta)) (hb : PE X b (dE X.K W tb)) : PE X (.Compare a [.GtE] [b] pos) (dE X.K W (e2 geD ta tb)) := de_cmp op_ge br_ge ha hb (nomark _)
theorem dt_lt (ha : PE X a (dE X.K W ta)) (hb : PE X b (dE X.K W tb)) : PT X (.Compare a [.Lt] [b] pos) (dT X.K W (tTru (e2 ltD ta tb))) := dt_cmp op_lt br_lt bl_lt ha hb (nomark _)
theorem dt_le (ha : PE X a (dE X.K W ta)) (hb : PE X b (dE X.K W tb)) : PT X (.Compare a [.LtE] [b] pos) (dT X.K W (tTru (e2 leD ta tb))) := dt_cmp op_le br_le bl_le ha hb (nomark _)
theorem dt_gt (ha : PE X a (dE X.K W ta)) (hb : PE X b (dE X.K W tb)) : PT X (.Compare a [.Gt] [b] pos) (dT X.K W (tTru (e2 gtD ta tb))) := dt_cmp op_gt br_gt bl_gt ha hb (nomark _)
theorem dt_ge (ha : PE X a (dE X.K W ta)) (hb : PE X b (dE X.K W tb)) : PT X (.Compare a [.GtE] [b] pos) (dT X.K W (tTru (e2 geD ta tb))) := dt_cmp op_ge br_ge bl_ge ha hb (nomark _)
/-- the scalars that == tells apart -/
def scalD : D → D → Option Bool
  | .non, .non => some true
  | .non, .int _ => some false | .int _, .non => some false
  | .non, .bl _ => some false | .bl _, .non => some false
  | .non, .str _ => some false | .str _, .non => some false
  | .int i, .int j => some (decide (i = j))
  | .bl i, .bl j => some (decide (i = j))
  | .str i, .str j => some (decide (i = j))
  | .int _, .str _ => some false | .str _, .int _ => some false
  | .bl _, .str _ => some false | .str _, .bl _ => some false
  | _, _ => none
def eqD : OD := fun x y S R => match scalD x y with
  | some k => R (.bl k) S
  | none => False
def neD : OD := fun x y S R => match scalD x y with
  | some k => R (.bl (!k)) S
  | none => False
theorem scal_of {K : PySem.W.Frag} {H : Hp} {μ : List Addr} {x y : D} {vx vy : V} {k : Bool} (r1 : Rep K H μ x vx) (r2 : Rep K H μ y vy) (h : scalD x y = some k) : scal vx vy = true ∧ decide (vx = vy) = k := by
  unfold scalD at h
  split at h <;> (try cases h) <;> cases r1 <;> cases r2 <;> simp [scal]
theorem br_eq : Br2 X.K rEq eqD := by
  intro x y S R vx vy μ H Q s r1 r2 h ok
  unfold eqD at h
  split at h
  · rename_i k e
    obtain ⟨h1, h2⟩ := scal_of r1 r2 e
    refine ⟨h1, ?_⟩
    rw [h2]
    exact ok _ _ _ _ _ h Ext.refl s (.bl _)
  · exact h.elim
theorem br_ne : Br2 X.K rNe neD := by
  intro x y S R vx vy μ H Q s r1 r2 h ok
  unfold neD at h
  split at h
  · rename_i k e
    obtain ⟨h1, h2⟩ := scal_of r1 r2 e
    refine ⟨h1, ?_⟩
    rw [h2]
    exact ok _ _ _ _ _ h Ext.refl s (.bl _)
  · exact h.elim
theorem bl_eq : ∀ x y S (R : RD), eqD x y S R → eqD x y S fun d S' => R d S' ∧ ∃ k, d = .bl k := by
  intro x y S R h; unfold eqD at h ⊢; split at h <;> first | exact ⟨h, _, rfl⟩ | exact h.elim
theorem bl_ne : ∀ x y S (R : RD), neD x y S R → neD x y S fun d S' => R d S' ∧ ∃ k, d = .bl k := by
  intro x y S R h; unfold neD at h ⊢; split at h <;> first | exact ⟨h, _, rfl⟩ | exact h.elim
theorem de_eq (ha : PE X a (dE X.K W ta)) (hb : PE X b (dE X.K W tb)) : PE X (.Compare a [.Eq] [b] pos) (dE X.K W (e2 eqD ta tb)) := de_cmp op_eq br_eq ha hb (nomark _)
theorem de_ne (ha : PE X a (dE X.K W ta)) (hb : PE X b (dE X.K W tb)) : PE X (.Compare a [.NotEq] [b] pos) (dE X.K W (e2 neD ta tb)) := de_cmp op_ne br_ne ha hb (nomark _)
theorem dt_eq (ha : PE X a (dE X.K W ta)) (hb : PE X b (dE X.K W tb)) : PT X (.Compare a [.Eq] [b] pos) (dT X.K W (tTru (e2 eqD ta tb))) := dt_cmp op_eq br_eq bl_eq ha hb (nomark _)
theorem dt_ne (ha : PE X a (dE X.K W ta)) (hb : PE X b (dE X.K W tb)) : PT X (.Compare a [.NotEq] [b] pos) (dT X.K W (tTru (e2 neD ta tb))) := dt_cmp op_ne br_ne bl_ne ha hb (nomark _)
end
end DL
namespace DL
open PySem PySem.Spec PyProof.Rows L2

section
variable {X : Cx} {W : WX} {a b c : Expr} {ta tb : TD} {tc td : TDT} {pos : Pos} {es rest : List Expr} {tr : TDA} {n : Nat}
/-! ### truth -/
theorem Sim.fix {K : PySem.W.Frag} {H : Hp} {μ : List Addr} {S : Sto} {n : Nat} {p : Addr} {xs : List D} (s : Sim K H μ S) (h : μ[n]? = some p) (e : S[n]? = some (.fix xs)) : ∃ vs, FixL K H p vs ∧ Reps K H μ xs vs := s.ob n p _ h e
theorem Reps.isEmpty {K : PySem.W.Frag} {H : Hp} {μ : List Addr} {xs : List D} {vs : List V} (r : Reps K H μ xs vs) : xs.isEmpty = vs.isEmpty := by
  cases r <;> rfl
theorem tru_of {K : PySem.W.Frag} {H : Hp} {μ : List Addr} {S : Sto} {d : D} {v : V} {R : Bool → Prop} (s : Sim K H μ S) (r : Rep K H μ d v) (h : truD d S R) : ∃ k, TruV K v H k ∧ R k := by
  unfold truD at h
  cases r with
  | non => exact ⟨_, rfl, h⟩
  | bl b => exact ⟨_, rfl, h⟩
  | int i => exact ⟨_, rfl, h⟩
  | str x => exact ⟨_, ⟨h.1, rfl⟩, h.2⟩
  | tup t q => exact ⟨_, .inr (.inl ⟨_, t, rfl⟩), by rw [← q.isEmpty]; exact h⟩
  | ref g =>
    obtain ⟨xs, e, h⟩ := lst_inv h
    obtain ⟨vs, hv, q⟩ := s.lstR g e
    exact ⟨_, .inl ⟨_, hv, rfl⟩, by rw [← q.isEmpty]; exact h⟩
theorem dt_tru (ha : PE X a (dE X.K W ta)) (he : ∀ whole, isTrue a X.env whole = (do let v ← whole; standAt a.pos; holding [v] (truthy v)) := by intro _; rfl) : PT X a (dT X.K W (tTru ta)) := by
  refine (pt_truth ha he).imp fun σ H Q ⟨ρ, μ, S, R, Rx, at_, h, ok, ox⟩ => ?_
  refine ⟨ρ, μ, S, _, Rx, at_, h, fun d S' v μ' H' h' e s r => ?_, ox⟩
  obtain ⟨k, h1, h2⟩ := tru_of s r h'
  exact ⟨k, h1, ok _ _ _ _ h2 e s⟩
theorem dt_not (ha : PT X a (dT X.K W tc)) : PT X (.UnaryOp .Not a pos) (dT X.K W (tNotD tc)) :=
  (pt_not ha).imp fun σ H Q ⟨ρ, μ, S, R, Rx, at_, h, ok, ox⟩ => ⟨ρ, μ, S, _, Rx, at_, h, fun b S' μ' H' h' e s => ok _ _ _ _ h' e s, ox⟩
theorem _root_.L2.PW.imp {X : Cx} {e : Expr} {t t' : TT} (h : PW X e t) (i : ∀ σ H Q, t' σ H Q → t σ H Q) : PW X e t' := ⟨fun wh pins s σ H Q I q => h.run wh pins s σ H Q I (i σ H Q q)⟩
theorem dw_and (ha : PT X a (dT X.K W tc)) (hb : PW X (.BoolOp .And (b :: rest) pos) (dT X.K W td)) : PW X (.BoolOp .And (a :: b :: rest) pos) (dT X.K W (tAndD tc td)) := by
  refine (pw_and ha hb).imp fun σ H Q ⟨ρ, μ, S, R, Rx, at_, h, ok, ox⟩ => ?_
  refine ⟨ρ, μ, S, _, Rx, at_, h, fun b S' μ' H' h' e s => ?_, ox⟩
  cases b with
  | true => exact ⟨ρ, μ', S', R, Rx, ⟨at_.env.mono e, s⟩, ift_t h', ok.ext e, ox.ext e⟩
  | false => exact ok _ _ _ _ (ift_f h') e s
theorem dw_or (ha : PT X a (dT X.K W tc)) (hb : PW X (.BoolOp .Or (b :: rest) pos) (dT X.K W td)) : PW X (.BoolOp .Or (a :: b :: rest) pos) (dT X.K W (tOrD tc td)) := by
  refine (pw_or ha hb).imp fun σ H Q ⟨ρ, μ, S, R, Rx, at_, h, ok, ox⟩ => ?_
  refine ⟨ρ, μ, S, _, Rx, at_, h, fun b S' μ' H' h' e s => ?_, ox⟩
  cases b with
  | false => exact ⟨ρ, μ', S', R, Rx, ⟨at_.env.mono e, s⟩, ift_f h', ok.ext e, ox.ext e⟩
  | true => exact ok _ _ _ _ (ift_t h') e s
theorem de_and (ha : PE X a (dE X.K W ta)) (hb : PE X (.BoolOp .And (b :: rest) pos) (dE X.K W tb)) : PE X (.BoolOp .And (a :: b :: rest) pos) (dE X.K W (eAnd ta tb)) := by
  refine (pe_andT ha hb).imp fun σ H Q ⟨ρ, μ, S, R, Rx, at_, h, ok, ox⟩ => ?_
  refine ⟨ρ, μ, S, _, Rx, at_, h, fun d S' v μ' H' h' e s r => ?_, ox⟩
  obtain ⟨k, h1, h2⟩ := tru_of s r h'
  refine ⟨k, h1, ?_⟩
  cases k with
  | true => exact ⟨ρ, μ', S', R, Rx, ⟨at_.env.mono e, s⟩, ift_t h2, ok.ext e, ox.ext e⟩
  | false => exact ok _ _ _ _ _ (ift_f h2) e s r
theorem de_or (ha : PE X a (dE X.K W ta)) (hb : PE X (.BoolOp .Or (b :: rest) pos) (dE X.K W tb)) : PE X (.BoolOp .Or (a :: b :: rest) pos) (dE X.K W (eOr ta tb)) := by
  refine (pe_orT ha hb).imp fun σ H Q ⟨ρ, μ, S, R, Rx, at_, h, ok, ox⟩ => ?_
  refine ⟨ρ, μ, S, _, Rx, at_, h, fun d S' v μ' H' h' e s r => ?_, ox⟩
  obtain ⟨k, h1, h2⟩ := tru_of s r h'
  refine ⟨k, h1, ?_⟩
  cases k with
  | false => exact ⟨ρ, μ', S', R, Rx, ⟨at_.env.mono e, s⟩, ift_f h2, ok.ext e, ox.ext e⟩
  | true => exact ok _ _ _ _ _ (ift_t h2) e s r
theorem de_not (ha : PE X a (dE X.K W ta)) : PE X (.UnaryOp .Not a pos) (dE X.K W (eNot ta)) := by
  refine (pe_notT ha).imp fun σ H Q ⟨ρ, μ, S, R, Rx, at_, h, ok, ox⟩ => ?_
  refine ⟨ρ, μ, S, _, Rx, at_, h, fun d S' v μ' H' h' e s r => ?_, ox⟩
  obtain ⟨k, h1, h2⟩ := tru_of s r h'
  exact ⟨k, h1, ok _ _ _ _ _ h2 e s (.bl _)⟩
theorem de_if (hc : PT X c (dT X.K W tc)) (ha : PE X a (dE X.K W ta)) (hb : PE X b (dE X.K W tb)) : PE X (.IfExp c a b pos) (dE X.K W (eIf tc ta tb)) := by
  refine (pe_ifExp hc ha hb).imp fun σ H Q ⟨ρ, μ, S, R, Rx, at_, h, ok, ox⟩ => ?_
  refine ⟨ρ, μ, S, _, Rx, at_, h, fun b S' μ' H' h' e s => ?_, ox⟩
  cases b with
  | true => exact ⟨ρ, μ', S', R, Rx, ⟨at_.env.mono e, s⟩, ift_t h', ok.ext e, ox.ext e⟩
  | false => exact ⟨ρ, μ', S', R, Rx, ⟨at_.env.mono e, s⟩, ift_f h', ok.ext e, ox.ext e⟩
/-! ### is -/
def isND : OU := fun x S R => match x with
  | .non => R (.bl true) S
  | _ => R (.bl false) S
def isNotND : OU := fun x S R => match x with
  | .non => R (.bl false) S
  | _ => R (.bl true) S
theorem rep_non {K : PySem.W.Frag} {H : Hp} {μ : List Addr} {d : D} {v : V} (r : Rep K H μ d v) : (v = .non) ↔ d = .non := by
  cases r <;> simp
theorem de_isN {j pos'} (ha : PE X a (dE X.K W ta)) : PE X (.Compare a [.Is] [.Constant .none j pos'] pos) (dE X.K W (e1 isND ta)) := by
  refine (pe_cmpR op_isN ha pe_non (nomark _)).imp fun σ H Q ⟨ρ, μ, S, R, Rx, at_, h, ok, ox⟩ => ?_
  refine ⟨ρ, μ, S, _, Rx, at_, h, fun d S' v μ' H' h' e s r => ⟨rfl, ?_⟩, ox⟩
  cases r <;> exact ok _ _ _ _ _ h' e s (.bl _)
theorem de_notN {j pos'} (ha : PE X a (dE X.K W ta)) : PE X (.Compare a [.IsNot] [.Constant .none j pos'] pos) (dE X.K W (e1 isNotND ta)) := by
  refine (pe_cmpR op_notN ha pe_non (nomark _)).imp fun σ H Q ⟨ρ, μ, S, R, Rx, at_, h, ok, ox⟩ => ?_
  refine ⟨ρ, μ, S, _, Rx, at_, h, fun d S' v μ' H' h' e s r => ⟨rfl, ?_⟩, ox⟩
  cases r <;> exact ok _ _ _ _ _ h' e s (.bl _)
theorem dt_isN {j pos'} (ha : PE X a (dE X.K W ta)) : PT X (.Compare a [.Is] [.Constant .none j pos'] pos) (dT X.K W (tTru (e1 isND ta))) := by
  refine (pt_cmpR op_isN ha pe_non (nomark _)).imp fun σ H Q ⟨ρ, μ, S, R, Rx, at_, h, ok, ox⟩ => ?_
  refine ⟨ρ, μ, S, _, Rx, at_, h, fun d S' v μ' H' h' e s r => ⟨rfl, _, rfl, ?_⟩, ox⟩
  cases r <;> exact ok _ _ _ _ h' e s
theorem dt_notN {j pos'} (ha : PE X a (dE X.K W ta)) : PT X (.Compare a [.IsNot] [.Constant .none j pos'] pos) (dT X.K W (tTru (e1 isNotND ta))) := by
  refine (pt_cmpR op_notN ha pe_non (nomark _)).imp fun σ H Q ⟨ρ, μ, S, R, Rx, at_, h, ok, ox⟩ => ?_
  refine ⟨ρ, μ, S, _, Rx, at_, h, fun d S' v μ' H' h' e s r => ⟨rfl, _, rfl, ?_⟩, ox⟩
  cases r <;> exact ok _ _ _ _ h' e s
/-! ### built-ins -/
theorem br_args {K : PySem.W.Frag} {r : List V → Hp → VK → Prop} {f : OC} (br : BrC K r f) {σ : L2.St} {H : Hp} {Q : VK} (h : dE K W (eB f tr) σ H Q) : tCB r (dA K W n tr) σ H Q := by
  obtain ⟨ρ, μ, S, R, Rx, at_, h, ok, ox⟩ := h
  exact ⟨ρ, μ, S, _, Rx, at_, h, fun xs S1 vs μ1 H1 _ h1 e1 s1 r1 => br xs S1 R vs μ1 H1 Q s1 r1 h1 (ok.ext e1), ox⟩
theorem da_nil : PA X [] (dA X.K W 0 aNil) := pa_nil.imp fun σ H Q ⟨ρ, μ, S, R, Rx, at_, h, ok, ox⟩ => ok _ _ _ _ _ rfl h Ext.refl at_.sim .nil
theorem da_cons (ha : PE X a (dE X.K W ta)) (hr : PA X es (dA X.K W n tr)) (hs : starEach (a :: es) X.env = (false, eval a X.env) :: starEach es X.env := by rfl) : PA X (a :: es) (dA X.K W (n + 1) (aCons ta tr)) := by
  refine (pa_cons ha hr hs).imp fun σ H Q ⟨ρ, μ, S, R, Rx, at_, h, ok, ox⟩ => ?_
  refine ⟨ρ, μ, S, _, Rx, at_, h, fun d S' v μ' H' h' e s r => ?_, ox⟩
  refine ⟨ρ, μ', S', _, Rx, ⟨at_.env.mono e, s⟩, h', fun ds S2 vs μ2 H2 l2 h2 e2 s2 r2 => ?_, ox.ext e⟩
  exact ok _ _ _ _ _ (by rw [List.length_cons, l2]) h2 (e.trans e2) s2 (.cons (r.mono e2) r2)
theorem de_tup {k} (h : PA X es (dA X.K W n tr)) : PE X (.Tuple es k pos) (dE X.K W (eTup tr)) := by
  refine (pe_tup h).imp fun σ H Q ⟨ρ, μ, S, R, Rx, at_, h, ok, ox⟩ => ?_
  refine ⟨ρ, μ, S, _, Rx, at_, h, fun ds S' vs μ' H' _ h' e s r => ⟨by rw [← r.length]; exact h'.1, fun p hp => ?_⟩, ox⟩
  obtain ⟨e', s', r'⟩ := s.newTup hp r
  exact ok _ _ _ _ _ h'.2 (e.trans e') s' r'
theorem de_lst (h : PA X es (dA X.K W n tr)) : PE X (.List es pos) (dE X.K W (eLst tr)) := by
  refine (pe_lst h).imp fun σ H Q ⟨ρ, μ, S, R, Rx, at_, h, ok, ox⟩ => ?_
  refine ⟨ρ, μ, S, _, Rx, at_, h, fun ds S' vs μ' H' _ h' e s r => ⟨by rw [← r.length]; exact h'.1, fun p hp => ?_⟩, ox⟩
  obtain ⟨e', s', r'⟩ := s.newLst hp r
  exact ok _ _ _ _ _ h'.2 (e.trans e') s' r'
theorem de_callB {x : Str} {id : String} {r : List V → Hp → VK → Prop} {f : OC} {p : Pos} (hc : CallR X (.builtin id) r) (br : BrC X.K r f) (hm : X.mg x = none) (hv : bootBuiltins x = some (.builtin id)) (ha : PA X (a :: es) (dA X.K W n tr)) (hg : Gl X x := by rfl) (hn : x ≠ "__name__" := by decide) (hdb : (x == ("__debug__" : Str)) = false := by decide)
    (he : starEach (a :: es) X.env = (false, eval a X.env) :: starEach es X.env := by rfl) (hpl : (backTo pos (starEach es X.env)).any (·.1) = false := by rfl) : PE X (.Call (.Name x p) (a :: es) [] pos) (dE X.K W (eB f tr)) :=
  (pe_callB hc hg hm hv ha hn hdb he hpl).imp fun _ _ _ h => br_args br h
theorem de_callTy {x : Str} {T : String} {r : List V → Hp → VK → Prop} {f : OC} {p : Pos} (hc : CallR X (.type T) r) (br : BrC X.K r f) (hm : X.mg x = none) (hv : bootBuiltins x = some (.type T)) (ha : PA X (a :: es) (dA X.K W n tr)) (hg : Gl X x := by rfl) (hn : x ≠ "__name__" := by decide) (hdb : (x == ("__debug__" : Str)) = false := by decide)
    (he : starEach (a :: es) X.env = (false, eval a X.env) :: starEach es X.env := by rfl) (hpl : (backTo pos (starEach es X.env)).any (·.1) = false := by rfl) : PE X (.Call (.Name x p) (a :: es) [] pos) (dE X.K W (eB f tr)) :=
  (pe_callTy hc hg hm hv ha hn hdb he hpl).imp fun _ _ _ h => br_args br h
def lenD : OC := fun xs S R => match xs with
  | [.str x] => x.length ≤ sizeLine ∧ R (.int x.length) S
  | [.tup xs] => R (.int xs.length) S
  | [.ref n] => lstAt n S fun xs => R (.int xs.length) S
  | _ => False
theorem br_len : BrC X.K (fun xs H Q => ∃ x n, xs = [x] ∧ LenV X.K x H n ∧ Q (.int n) H) lenD := by
  intro xs S R vs μ H Q s r h ok
  unfold lenD at h
  split at h
  · cases r with | cons r1 r2 => cases r2; cases r1; exact ⟨_, _, rfl, ⟨h.1, rfl⟩, ok _ _ _ _ _ h.2 Ext.refl s (.int _)⟩
  · cases r with | cons r1 r2 => cases r2; cases r1 with | tup t q => exact ⟨_, _, rfl, .inr ⟨_, t, rfl⟩, by rw [← q.length]; exact ok _ _ _ _ _ h Ext.refl s (.int _)⟩
  · cases r with | cons r1 r2 =>
    cases r2
    cases r1 with | ref g =>
    obtain ⟨xs, e, h⟩ := lst_inv h
    obtain ⟨vs, hv, q⟩ := s.lstR g e
    exact ⟨_, _, rfl, .inl ⟨_, hv, rfl⟩, by rw [← q.length]; exact ok _ _ _ _ _ h Ext.refl s (.int _)⟩
  · exact h.elim
def absD : OC := fun xs S R => match xs with
  | [.int i] => R (.int (if i < 0 then -i else i)) S
  | _ => False
theorem br_abs : BrC X.K (fun xs H Q => ∃ i, xs = [.int i] ∧ Q (.int (if i < 0 then -i else i)) H) absD := by
  intro xs S R vs μ H Q s r h ok
  unfold absD at h
  split at h
  · cases r with | cons r1 r2 => cases r2; cases r1; exact ⟨_, rfl, ok _ _ _ _ _ h Ext.refl s (.int _)⟩
  · exact h.elim
def intD : OC := fun xs S R => match xs with
  | [.int i] => R (.int i) S
  | [.bl k] => R (.int (if k then 1 else 0)) S
  | _ => False
theorem br_int : BrC X.K (fun xs H Q => (∃ i, xs = [.int i] ∧ Q (.int i) H) ∨ ∃ k, xs = [.bl k] ∧ Q (.int (if k then 1 else 0)) H) intD := by
  intro xs S R vs μ H Q s r h ok
  unfold intD at h
  split at h
  · cases r with | cons r1 r2 => cases r2; cases r1; exact .inl ⟨_, rfl, ok _ _ _ _ _ h Ext.refl s (.int _)⟩
  · cases r with | cons r1 r2 => cases r2; cases r1; exact .inr ⟨_, rfl, ok _ _ _ _ _ h Ext.refl s (.int _)⟩
  · exact h.elim
def strD : OC := fun xs S R => match xs with
  | [.int i] => i.natAbs.log2 < 1920 ∧ R (.str (toString i)) S
  | _ => False
theorem br_str : BrC X.K (fun xs H Q => ∃ i, xs = [.int i] ∧ i.natAbs.log2 < 1920 ∧ Q (.str (toString i)) H) strD := by
  intro xs S R vs μ H Q s r h ok
  unfold strD at h
  split at h
  · cases r with | cons r1 r2 => cases r2; cases r1; exact ⟨_, rfl, h.1, ok _ _ _ _ _ h.2 Ext.refl s (.str _)⟩
  · exact h.elim
/-- list(x) of a tuple or a list -/
def listD : OC := fun xs S R => match xs with
  | [.tup xs] => R (.ref S.length) (S ++ [.lst xs])
  | [.ref n] => lstAt n S fun xs => R (.ref S.length) (S ++ [.lst xs])
  | _ => False
theorem br_list : BrC X.K (fun xs H Q => ∃ p ys, xs = [.ref p] ∧ (SqL X.K H p ys ∨ SqT X.K H p ys) ∧ ∀ l, H l = none → Q (.ref l) (upd H l (.lst ys))) listD := by
  intro xs S R vs μ H Q s r h ok
  unfold listD at h
  have go : ∀ {ds : List D} {us : List V}, Reps X.K H μ ds us → R (.ref S.length) (S ++ [.lst ds]) → ∀ l, H l = none → Q (.ref l) (upd H l (.lst us)) := fun q h l hl => by
    obtain ⟨e, s', r⟩ := s.newLst hl q
    exact ok _ _ _ _ _ h e s' r
  split at h
  · cases r with | cons r1 r2 => cases r2; cases r1 with | tup t q => exact ⟨_, _, rfl, .inr t, go q h⟩
  · cases r with | cons r1 r2 =>
    cases r2
    cases r1 with | ref g =>
    obtain ⟨xs, e, h⟩ := lst_inv h
    obtain ⟨vs, hv, q⟩ := s.lstR g e
    exact ⟨_, _, rfl, .inl hv, go q h⟩
  · exact h.elim
/-- tuple(x) of a tuple or a list -/
def tupleD : OC := fun xs S R => match xs with
  | [.tup xs] => R (.tup xs) S
  | [.ref n] => lstAt n S fun xs => R (.tup xs) S
  | _ => False
theorem br_tuple : BrC X.K (fun xs H Q => ∃ p ys, xs = [.ref p] ∧ ((SqL X.K H p ys ∧ ∀ l, H l = none → Q (.ref l) (upd H l (.tup ys))) ∨ (SqT X.K H p ys ∧ Q (.ref p) H))) tupleD := by
  intro xs S R vs μ H Q s r h ok
  unfold tupleD at h
  have go : ∀ {ds : List D} {us : List V}, Reps X.K H μ ds us → R (.tup ds) S → ∀ l, H l = none → Q (.ref l) (upd H l (.tup us)) := fun q h l hl => by
    obtain ⟨e, s', r⟩ := s.newTup hl q
    exact ok _ _ _ _ _ h e s' r
  split at h
  · cases r with | cons r1 r2 => cases r2; cases r1 with | tup t q => exact ⟨_, _, rfl, .inr ⟨t, ok _ _ _ _ _ h Ext.refl s (.tup t q)⟩⟩
  · cases r with | cons r1 r2 =>
    cases r2
    cases r1 with | ref g =>
    obtain ⟨xs, e, h⟩ := lst_inv h
    obtain ⟨vs, hv, q⟩ := s.lstR g e
    exact ⟨_, _, rfl, .inl ⟨hv, go q h⟩⟩
  · exact h.elim
/-! ### isinstance -/
/-- a value's built-in class by its place: 0 None, 1 bool, 2 int, 3 str, 4 tuple, 5 list -/
def kindD (d : D) (S : Sto) (k : Nat → Prop) : Prop := match d with
  | .non => k 0
  | .bl _ => k 1
  | .int _ => k 2
  | .str _ => k 3
  | .tup _ => k 4
  | .ref n => lstAt n S fun _ => k 5
def kName : Nat → String
  | 0 => "NoneType"
  | 1 => "bool"
  | 2 => "int"
  | 3 => "str"
  | 4 => "tuple"
  | _ => "list"
/-- the classes asked for: 1 bool, 2 int, 3 str, 4 tuple, 5 list, 6 dict -/
def tName : Nat → String
  | 1 => "bool"
  | 2 => "int"
  | 3 => "str"
  | 4 => "tuple"
  | 5 => "list"
  | _ => "dict"
def isKT (k t : Nat) : Bool := k == t || (k == 1 && t == 2)
theorem kit_is : ∀ k, k < 6 → ∀ t, 1 ≤ t → t < 7 → kitB (kName k) (tName t) = some (isKT k t) := by
  intro k hk t h1 ht
  have hk' : k = 0 ∨ k = 1 ∨ k = 2 ∨ k = 3 ∨ k = 4 ∨ k = 5 := by omega
  have ht' : t = 1 ∨ t = 2 ∨ t = 3 ∨ t = 4 ∨ t = 5 ∨ t = 6 := by omega
  rcases hk' with rfl | rfl | rfl | rfl | rfl | rfl <;> rcases ht' with rfl | rfl | rfl | rfl | rfl | rfl <;> decide +kernel
theorem kind_of {K : PySem.W.Frag} {H : Hp} {μ : List Addr} {S : Sto} {d : D} {v : V} {Z : Nat → Prop} (s : Sim K H μ S) (r : Rep K H μ d v) (h : kindD d S Z) : ∃ k, Z k ∧ k < 6 ∧ TyX K H v (.type (kName k)) := by
  unfold kindD at h
  cases r with
  | non => exact ⟨_, h, by decide, .base .non⟩
  | bl b => exact ⟨_, h, by decide, .base (.bl b)⟩
  | int i => exact ⟨_, h, by decide, .base (.int i)⟩
  | str x => exact ⟨_, h, by decide, .base (.str x)⟩
  | tup t q =>
    refine ⟨_, h, by decide, ?_⟩
    rcases t with (t | ⟨o, t⟩) | ⟨o, its, n, h1, h2, _⟩
    · exact .base (.tup t)
    · exact .fTuple t
    · exact .kTuple h1 h2
  | ref g =>
    obtain ⟨xs, e, h⟩ := lst_inv h
    refine ⟨_, h, by decide, ?_⟩
    rcases e with e | e
    · obtain ⟨vs, hv, q⟩ := s.lst g e
      exact .base (.lst hv)
    · obtain ⟨vs, hv, q⟩ := s.fix g e
      rcases hv with ⟨o, hv⟩ | ⟨o, its, n, h1, h2, _⟩
      · exact .base (.frz hv)
      · exact .kList h1 h2
def isiD (t : Nat) : OU := fun x S R => kindD x S fun k => R (.bl (isKT k t)) S
/-- isinstance(e, T) -/
theorem de_isi {p q : Pos} {xT : Str} (t : Nat) (h1 : 1 ≤ t) (h6 : t < 7) (hm : X.mg "isinstance" = none) (hmT : X.mg xT = none) (hvT : bootBuiltins xT = some (.type (tName t))) (ha : PE X a (dE X.K W ta))
    (hg : Gl X "isinstance" := by rfl) (hgT : Gl X xT := by rfl) (hnT : xT ≠ "__name__" := by decide) (hdT : (xT == ("__debug__" : Str)) = false := by decide)
    (hs1 : starEach [a, .Name xT q] X.env = (false, eval a X.env) :: starEach [.Name xT q] X.env := by rfl) (hs2 : starEach [.Name xT q] X.env = (false, eval (.Name xT q) X.env) :: starEach [] X.env := by rfl)
    (hpl : (backTo pos (starEach [.Name xT q] X.env)).any (·.1) = false := by rfl) : PE X (.Call (.Name "isinstance" p) [a, .Name xT q] [] pos) (dE X.K W (e1 (isiD t) ta)) := by
  refine (pe_callB call_isi hg hm PyProof.Rows.boot_isinstance (pa_cons ha (pa_cons (pe_bltn (v := .ty (tName t)) hgT hmT hvT rfl hnT hdT) pa_nil hs2) hs1) (by decide) (by decide) hs1 hpl).imp fun σ H Q ⟨ρ, μ, S, R, Rx, at_, h, ok, ox⟩ => ?_
  refine ⟨ρ, μ, S, _, Rx, at_, h, fun d S' v μ' H' h' e s r => ?_, ox⟩
  obtain ⟨k, h', hk, ty⟩ := kind_of s r h'
  exact ⟨v, .ty (tName t), _, _, _, rfl, .ty _, ty, kit_ty (kit_is k hk t h1 h6), ok _ _ _ _ _ h' e s (.bl _)⟩
def isi3D (t u w : Nat) : OU := fun x S R => kindD x S fun k => R (.bl (isKT k t || (isKT k u || isKT k w))) S
/-- isinstance(e, (T, U, V)) -/
theorem de_isi3 {p q1 q2 q3 qt : Pos} {kt : Nat} {x1 x2 x3 : Str} (t u w : Nat) (a1 : 1 ≤ t ∧ t < 7) (a2 : 1 ≤ u ∧ u < 7) (a3 : 1 ≤ w ∧ w < 7) (hm : X.mg "isinstance" = none) (hm1 : X.mg x1 = none) (hm2 : X.mg x2 = none) (hm3 : X.mg x3 = none)
    (v1 : bootBuiltins x1 = some (.type (tName t))) (v2 : bootBuiltins x2 = some (.type (tName u))) (v3 : bootBuiltins x3 = some (.type (tName w))) (ha : PE X a (dE X.K W ta))
    (hg : Gl X "isinstance" := by rfl) (g1 : Gl X x1 := by rfl) (g2 : Gl X x2 := by rfl) (g3 : Gl X x3 := by rfl) (n1 : x1 ≠ "__name__" := by decide) (n2 : x2 ≠ "__name__" := by decide) (n3 : x3 ≠ "__name__" := by decide)
    (d1 : (x1 == ("__debug__" : Str)) = false := by decide) (d2 : (x2 == ("__debug__" : Str)) = false := by decide) (d3 : (x3 == ("__debug__" : Str)) = false := by decide)
    (hs1 : starEach [a, .Tuple [.Name x1 q1, .Name x2 q2, .Name x3 q3] kt qt] X.env = (false, eval a X.env) :: starEach [.Tuple [.Name x1 q1, .Name x2 q2, .Name x3 q3] kt qt] X.env := by rfl)
    (hs2 : starEach [.Tuple [.Name x1 q1, .Name x2 q2, .Name x3 q3] kt qt] X.env = (false, eval (.Tuple [.Name x1 q1, .Name x2 q2, .Name x3 q3] kt qt) X.env) :: starEach [] X.env := by rfl)
    (hpl : (backTo pos (starEach [.Tuple [.Name x1 q1, .Name x2 q2, .Name x3 q3] kt qt] X.env)).any (·.1) = false := by rfl)
    (hs3 : starEach [.Name x1 q1, .Name x2 q2, .Name x3 q3] X.env = (false, eval (.Name x1 q1) X.env) :: starEach [.Name x2 q2, .Name x3 q3] X.env := by rfl)
    (hs4 : starEach [.Name x2 q2, .Name x3 q3] X.env = (false, eval (.Name x2 q2) X.env) :: starEach [.Name x3 q3] X.env := by rfl) (hs5 : starEach [.Name x3 q3] X.env = (false, eval (.Name x3 q3) X.env) :: starEach [] X.env := by rfl) :
    PE X (.Call (.Name "isinstance" p) [a, .Tuple [.Name x1 q1, .Name x2 q2, .Name x3 q3] kt qt] [] pos) (dE X.K W (e1 (isi3D t u w) ta)) := by
  refine (pe_callB call_isiT hg hm PyProof.Rows.boot_isinstance (pa_cons ha (pa_cons (pe_tup (pa_cons (pe_bltn (v := .ty (tName t)) g1 hm1 v1 rfl n1 d1) (pa_cons (pe_bltn (v := .ty (tName u)) g2 hm2 v2 rfl n2 d2) (pa_cons (pe_bltn (v := .ty (tName w)) g3 hm3 v3 rfl n3 d3) pa_nil hs5) hs4) hs3)) pa_nil hs2) hs1) (by decide) (by decide) hs1 hpl).imp fun σ H Q ⟨ρ, μ, S, R, Rx, at_, h, ok, ox⟩ => ?_
  refine ⟨ρ, μ, S, _, Rx, at_, h, fun d S' v μ' H' h' e s r => ?_, ox⟩
  refine ⟨by show 3 ≤ sizeLine; decide, fun tp htp => ?_⟩
  have e' : Ext X.K H' μ' (upd H' tp (.tup [.ty (tName t), .ty (tName u), .ty (tName w)])) μ' := Ext.fresh htp fun _ _ h => h
  have s' := s.tup (o := .tup [.ty (tName t), .ty (tName u), .ty (tName w)]) htp
  obtain ⟨k, h', hk, ty⟩ := kind_of s' (r.mono e') h'
  refine ⟨v, tp, _, _, _, _, rfl, upd_same, .cons (.ty _) (.cons (.ty _) (.cons (.ty _) .nil)), ty, ?_, ok _ _ _ _ _ h' (e.trans e') s' (.bl _)⟩
  have k1 := kit_ty (K := X.K) (kit_is k hk t a1.1 a1.2)
  have k2 := kit_ty (K := X.K) (kit_is k hk u a2.1 a2.2)
  have k3 := kit_ty (K := X.K) (kit_is k hk w a3.1 a3.2)
  refine kitAny_cons k1 (fun z => ?_) (fun z => by rw [z]; rfl)
  rw [z, Bool.false_or]
  refine kitAny_cons k2 (fun z => ?_) (fun z => by rw [z]; rfl)
  rw [z, Bool.false_or]
  exact kitAny_cons k3 (fun z => by rw [z]; exact kitAny_nil) (fun z => z)
end
end DL
namespace DL
open PySem PySem.Spec PyProof.Rows L2

abbrev TDO := RX → Ev → Sto → (Option Int → Sto → Prop) → Prop
def oNone : TDO := fun _ _ S R => R none S
def oSome (t : TD) : TDO := fun Rx ρ S R => t Rx ρ S fun d S1 => match d with
  | .int i => R (some i) S1
  | _ => False
def OkO (K : PySem.W.Frag) (H : Hp) (μ : List Addr) (R : Option Int → Sto → Prop) (Q : Option Int → Hp → Prop) : Prop := ∀ o S' μ' H', R o S' → Ext K H μ H' μ' → Sim K H' μ' S' → Q o H'
def dO (K : PySem.W.Frag) (W : WX) (t : TDO) : TO := fun σ H Q => ∃ ρ μ S R Rx, At K σ H ρ μ S ∧ t Rx ρ S R ∧ OkO K H μ R Q ∧ OkX K H μ Rx (wAt W σ)
theorem _root_.L2.PO.imp {X : Cx} {e : Option Expr} {t t' : TO} (h : PO X e t) (i : ∀ σ H Q, t' σ H Q → t σ H Q) : PO X e t' := ⟨fun pins s σ H Q I q => h.run pins s σ H Q I (i σ H Q q)⟩
def cutD (xs : List D) (lo hi : Option Int) : List D := (xs.drop (HT.sIx xs.length 0 lo)).take (HT.sIx xs.length xs.length hi - HT.sIx xs.length 0 lo)
def sliceD (x : D) (lo hi : Option Int) (S : Sto) (R : RD) : Prop := match x with
  | .str z => z.length ≤ sizeLine ∧ R (.str (cutS z lo hi)) S
  | .tup xs => R (.tup (cutD xs lo hi)) S
  | .ref n => lstAt n S fun xs => R (.ref S.length) (S ++ [.lst (cutD xs lo hi)])
  | _ => False
def eSlice (t : TD) (tl th : TDO) : TD := fun Rx ρ S R => t Rx ρ S fun x S1 => tl Rx ρ S1 fun lo S2 => th Rx ρ S2 fun hi S3 => sliceD x lo hi S3 R
def eRev (t : TD) : TD := fun Rx ρ S R => t Rx ρ S fun x S1 => match x with
  | .ref n => lstAt n S1 fun xs => R (.ref S1.length) (S1 ++ [.lst xs.reverse])
  | _ => False
def ixD : OD := fun x y S R => match y with
  | .int i => match x with
    | .tup xs => ixAt xs i fun d => R d S
    | .str z => z.length ≤ sizeLine ∧ (match atI z.cps.toList i with
      | some c => R (.str ⟨#[c]⟩) S
      | none => False)
    | .ref n => lstAt n S fun xs => ixAt xs i fun d => R d S
    | _ => False
  | _ => False
def appD (d : D) (n : Nat) (S : Sto) (R : RD) : Prop := mlstAt n S fun xs => xs.length < sizeLine ∧ R .non (S.set n (.lst (xs ++ [d])))
def eAppend (to_ ta : TD) : TD := fun Rx ρ S R => to_ Rx ρ S fun o S1 => match o with
  | .ref n => mlstAt n S1 (fun _ => True) ∧ ta Rx ρ S1 fun d S2 => appD d n S2 R
  | _ => False
/-- the last item goes -/
def popK (xs : List D) (k : D → Prop) : Prop := match xs[xs.length - 1]? with
  | some d => k d
  | none => False
def ePop (to_ : TD) : TD := fun Rx ρ S R => to_ Rx ρ S fun o S1 => match o with
  | .ref n => mlstAt n S1 fun xs => popK xs fun d => R d (S1.set n (.lst xs.dropLast))
  | _ => False
def popAtK (xs : List D) (i : Int) (k : D → Nat → Prop) : Prop := match ixN xs.length i with
  | some j => (match xs[j]? with
    | some d => (-(2 ^ 63) ≤ i ∧ i < 2 ^ 63) ∧ k d j
    | none => False)
  | none => False
def ePopAt (to_ ta : TD) : TD := fun Rx ρ S R => to_ Rx ρ S fun o S1 => match o with
  | .ref n => mlstAt n S1 (fun _ => True) ∧ ta Rx ρ S1 fun d S2 => match d with
    | .int i => mlstAt n S2 fun xs => popAtK xs i fun d j => R d (S2.set n (.lst (xs.eraseIdx j)))
    | _ => False
  | _ => False
def eFmt (t : TD) : TD := fun Rx ρ S R => t Rx ρ S fun x S1 => match x with
  | .str y => y.length ≤ sizeLine ∧ R (.str y) S1
  | .int i => i.natAbs.log2 < 1920 ∧ R (.str (toString i)) S1
  | _ => False
abbrev TDJ := RX → Ev → Sto → Str → (Str → Sto → Prop) → Prop
def jNil : TDJ := fun _ _ S acc R => R acc S
def jCons (t : TD) (r : TDJ) : TDJ := fun Rx ρ S acc R => t Rx ρ S fun x S1 => match x with
  | .str y => (acc ++ y).length ≤ sizeLine ∧ r Rx ρ S1 (acc ++ y) R
  | _ => False
def eJoined (j : TDJ) : TD := fun Rx ρ S R => j Rx ρ S Str.empty fun out S1 => R (.str out) S1

section
variable {X : Cx} {W : WX} {a b c o : Expr} {ta tb to_ : TD} {pos apos p2 : Pos} {es rest : List Expr} {tr tk : TDA} {n m : Nat} {lo hi : Option Expr} {tl th : TDO}
theorem do_none : PO X none (dO X.K W oNone) := po_none.imp fun σ H Q ⟨ρ, μ, S, R, Rx, at_, h, ok, ox⟩ => ok _ _ _ _ h Ext.refl at_.sim
theorem do_some (ha : PE X a (dE X.K W ta)) : PO X (some a) (dO X.K W (oSome ta)) := (po_some ha).imp fun σ H Q ⟨ρ, μ, S, R, Rx, at_, h, ok, ox⟩ => by
  refine ⟨ρ, μ, S, _, Rx, at_, h, fun d S' v μ' H' h' e s r => ?_, ox⟩
  dsimp only at h'
  split at h'
  · cases r
    exact ⟨_, rfl, ok _ _ _ _ h' e s⟩
  · exact h'.elim
theorem Reps.cut {K : PySem.W.Frag} {H : Hp} {μ : List Addr} {xs : List D} {vs : List V} (r : Reps K H μ xs vs) (l h : Option Int) : Reps K H μ (cutD xs l h) (cutV vs l h) := by
  unfold cutD cutV
  rw [r.length]
  exact (r.drop _).take _
theorem de_slice (ha : PE X a (dE X.K W ta)) (hl : PO X lo (dO X.K W tl)) (hh : PO X hi (dO X.K W th)) : PE X (.Subscript a (.Slice lo hi none p2) pos) (dE X.K W (eSlice ta tl th)) := by
  refine (pe_slice (sl_list.or (sl_tupA.or sl_str)) ha hl hh).imp fun σ H Q ⟨ρ, μ, S, R, Rx, at_, h, ok, ox⟩ => ?_
  refine ⟨ρ, μ, S, _, Rx, at_, h, fun x S1 v μ1 H1 h1 e1 s1 r1 => ?_, ox⟩
  refine ⟨ρ, μ1, S1, _, Rx, ⟨at_.env.mono e1, s1⟩, h1, fun l S2 μ2 H2 h2 e2 s2 => ?_, ox.ext e1⟩
  refine ⟨ρ, μ2, S2, _, Rx, ⟨at_.env.mono (e1.trans e2), s2⟩, h2, fun u S3 μ3 H3 h3 e3 s3 => ?_, ox.ext (e1.trans e2)⟩
  have r3 := r1.mono (e2.trans e3)
  have e := (e1.trans e2).trans e3
  replace h3 : sliceD x l u S3 R := h3
  unfold sliceD at h3
  split at h3
  · cases r3
    exact .inr (.inr ⟨_, rfl, h3.1, ok _ _ _ _ _ h3.2 e s3 (.str _)⟩)
  · rename_i xs
    cases r3 with | tup t q =>
    refine .inr (.inl ⟨_, _, rfl, t, fun hw => ?_, fun hw p hp => ?_⟩)
    · have : cutD xs l u = xs := by
        unfold cutD
        rw [q.length, hw.1, hw.2, List.drop_zero, Nat.sub_zero, ← q.length, List.take_length]
      rw [this] at h3
      exact ok _ _ _ _ _ h3 e s3 (.tup t q)
    · obtain ⟨e', s', r'⟩ := s3.newTup hp (q.cut l u)
      exact ok _ _ _ _ _ h3 (e.trans e') s' r'
  · cases r3 with | ref g =>
    obtain ⟨xs, g3, h3⟩ := lst_inv h3
    obtain ⟨vs, hv, q⟩ := s3.lstR g g3
    refine .inl ⟨_, _, rfl, hv, fun p hp => ?_⟩
    obtain ⟨e', s', r'⟩ := s3.newLst hp (q.cut l u)
    exact ok _ _ _ _ _ h3 (e.trans e') s' r'
  · exact h3.elim
theorem de_rev {k : Nat} {p1 p3 : Pos} (ha : PE X a (dE X.K W ta)) : PE X (.Subscript a (.Slice none none (some (.UnaryOp .USub (.Constant (.int 1) k p1) p2)) p3) pos) (dE X.K W (eRev ta)) := by
  refine (pe_revL ha).imp fun σ H Q ⟨ρ, μ, S, R, Rx, at_, h, ok, ox⟩ => ?_
  refine ⟨ρ, μ, S, _, Rx, at_, h, fun x S1 v μ1 H1 h1 e s r => ?_, ox⟩
  dsimp only at h1
  split at h1
  · cases r with | ref g =>
    obtain ⟨xs, g3, h1⟩ := lst_inv h1
    obtain ⟨vs, hv, q⟩ := s.lstR g g3
    refine ⟨_, _, rfl, hv, fun p hp => ?_⟩
    obtain ⟨e', s', r'⟩ := s.newLst hp q.reverse
    exact ok _ _ _ _ _ h1 (e.trans e') s' r'
  · exact h1.elim
theorem Reps.atI {K : PySem.W.Frag} {H : Hp} {μ : List Addr} {xs : List D} {vs : List V} {i : Int} {d : D} (r : Reps K H μ xs vs) (h : L2.atI xs i = some d) : ∃ v, L2.atI vs i = some v ∧ Rep K H μ d v := by
  unfold L2.atI at h ⊢
  rw [← r.length]
  cases e : ixN xs.length i with
  | none => rw [e] at h; cases h
  | some j =>
    rw [e] at h
    exact r.get h
theorem br_ix : Br2 X.K (rIx X.K) ixD := by
  intro x y S R vx vy μ H Q s r1 r2 h ok
  unfold ixD at h
  split at h
  · cases r2
    split at h
    · obtain ⟨d, ed, h⟩ := ix_inv h
      cases r1 with | tup t q =>
      obtain ⟨v, h1, h2⟩ := q.atI ed
      exact .inr (.inl ⟨_, _, _, _, rfl, rfl, t, h1, ok _ _ _ _ _ h Ext.refl s h2⟩)
    · obtain ⟨hl, h⟩ := h
      split at h
      · rename_i ed
        cases r1
        exact .inr (.inr ⟨_, _, _, rfl, rfl, hl, ed, ok _ _ _ _ _ h Ext.refl s (.str _)⟩)
      · exact h.elim
    · cases r1 with | ref g =>
      obtain ⟨xs, g3, h⟩ := lst_inv h
      obtain ⟨vs, hv, q⟩ := s.lstR g g3
      obtain ⟨d, ed, h⟩ := ix_inv h
      obtain ⟨v, h1, h2⟩ := q.atI ed
      exact .inl ⟨_, _, _, _, rfl, rfl, hv, h1, ok _ _ _ _ _ h Ext.refl s h2⟩
    · exact h.elim
  · exact h.elim
theorem de_ix (ha : PE X a (dE X.K W ta)) (hb : PE X b (dE X.K W tb)) (hs : PlainIx b := by exact fun _ _ => rfl) : PE X (.Subscript a b pos) (dE X.K W (e2 ixD ta tb)) :=
  (pe_ix ix_seq ha hb hs).imp fun _ _ _ h => seq2 br_ix h

/-! ### methods of lists -/
theorem Sim.setLst {K : PySem.W.Frag} {H : Hp} {μ : List Addr} {S : Sto} {n : Nat} {p : Addr} {xs ys : List D} {us : List V} (s : Sim K H μ S) (h : μ[n]? = some p) (e : S[n]? = some (.lst xs)) (r : Reps K H μ ys us) :
    Ext K H μ (upd H p (.lst us)) μ ∧ Sim K (upd H p (.lst us)) μ (S.set n (.lst ys)) :=
  have x : Ext K H μ (upd H p (.lst us)) μ := Ext.writeAt s h e rfl
  ⟨x, s.write h e rfl rfl ⟨us, upd_same, r.mono x⟩⟩
theorem de_append (ho : PE X o (dE X.K W to_)) (ha : PE X a (dE X.K W ta)) (hbase : attributeBase o "append" X.env (eval o X.env) = eval o X.env := by rfl)
    (hfew : ((backTo pos (starEach [a] X.env)).all (fun x => !x.1) && (backToKw pos (keywordEach [] X.env)).all (fun x => x.1.isSome) && decide (([a] : List Expr).length + ([] : List Keyword).length + (if ([] : List Keyword).isEmpty then 0 else 1) < 30)) = true := by rfl)
    (hline : (apos.endLine == pos.line) = true := by rfl) (hs : starEach [a] X.env = (false, eval a X.env) :: starEach [] X.env := by rfl) (hplain : (backTo pos (starEach [] X.env)).any (·.1) = false := by rfl) :
    PE X (.Call (.Attribute o "append" apos) [a] [] pos) (dE X.K W (eAppend to_ ta)) := by
  refine (pe_bm PySem.F.plainAttrs_list PySem.F.slot_list_append PySem.F.type_list_append mt_append ho (pa_cons ha pa_nil hs) hbase hfew hline hs hplain).imp fun σ H Q ⟨ρ, μ, S, R, Rx, at_, h, ok, ox⟩ => ?_
  refine ⟨ρ, μ, S, _, Rx, at_, h, fun x S1 v μ1 H1 h1 e1 s1 r1 => ?_, ox⟩
  dsimp only at h1
  split at h1
  · cases r1 with | ref g =>
    obtain ⟨hL, h1⟩ := h1
    obtain ⟨xs0, hx, _⟩ := mlst_inv hL
    obtain ⟨vs0, hv0, _⟩ := s1.lst g hx
    refine ⟨.inl ⟨rfl, _, SqL.of hv0⟩, ρ, μ1, S1, _, Rx, ⟨at_.env.mono e1, s1⟩, h1, fun d S2 u μ2 H2 h2 e2 s2 r2 => ?_, ox.ext e1⟩
    obtain ⟨xs, g2, h2⟩ := mlst_inv h2
    have g' := e2.mu _ _ g
    obtain ⟨vs, hv, q⟩ := s2.lst g' g2
    obtain ⟨e', s'⟩ := s2.setLst g' g2 (q.append (.cons r2 .nil))
    exact ⟨_, _, _, rfl, rfl, hv, by rw [← q.length]; exact h2.1, ok _ _ _ _ _ h2.2 ((e1.trans e2).trans e') s' .non⟩
  · exact h1.elim
theorem de_pop (ho : PE X o (dE X.K W to_)) (hbase : attributeBase o "pop" X.env (eval o X.env) = eval o X.env := by rfl) (hline : (apos.endLine == pos.line) = true := by rfl) : PE X (.Call (.Attribute o "pop" apos) [] [] pos) (dE X.K W (ePop to_)) := by
  refine (pe_bm0 PySem.F.plainAttrs_list PySem.F.slot_list_pop PySem.F.type_list_pop mt_pop ho hbase hline).imp fun σ H Q ⟨ρ, μ, S, R, Rx, at_, h, ok, ox⟩ => ?_
  refine ⟨ρ, μ, S, _, Rx, at_, h, fun x S1 v μ1 H1 h1 e1 s1 r1 => ?_, ox⟩
  dsimp only at h1
  split at h1
  · cases r1 with | ref g =>
    obtain ⟨xs, g1, h1⟩ := mlst_inv h1
    obtain ⟨vs, hv, q⟩ := s1.lst g g1
    unfold popK at h1
    split at h1
    · rename_i ed
      obtain ⟨u, hu, ru⟩ := q.get ed
      obtain ⟨e', s'⟩ := s1.setLst g g1 q.dropLast
      exact ⟨.inl ⟨rfl, _, SqL.of hv⟩, _, _, _, rfl, rfl, hv, by rw [← q.length]; exact hu, ok _ _ _ _ _ h1 (e1.trans e') s' (ru.mono e')⟩
    · exact h1.elim
  · exact h1.elim
theorem Reps.eraseIdx {K : PySem.W.Frag} {H : Hp} {μ : List Addr} : ∀ {xs : List D} {vs : List V} (i : Nat), Reps K H μ xs vs → Reps K H μ (xs.eraseIdx i) (vs.eraseIdx i)
  | _, _, _, .nil => .nil
  | _, _, 0, .cons _ t => t
  | _, _, i + 1, .cons r t => .cons r (Reps.eraseIdx i t)
theorem de_popAt (ho : PE X o (dE X.K W to_)) (ha : PE X a (dE X.K W ta)) (hbase : attributeBase o "pop" X.env (eval o X.env) = eval o X.env := by rfl)
    (hfew : ((backTo pos (starEach [a] X.env)).all (fun x => !x.1) && (backToKw pos (keywordEach [] X.env)).all (fun x => x.1.isSome) && decide (([a] : List Expr).length + ([] : List Keyword).length + (if ([] : List Keyword).isEmpty then 0 else 1) < 30)) = true := by rfl)
    (hline : (apos.endLine == pos.line) = true := by rfl) (hs : starEach [a] X.env = (false, eval a X.env) :: starEach [] X.env := by rfl) (hplain : (backTo pos (starEach [] X.env)).any (·.1) = false := by rfl) :
    PE X (.Call (.Attribute o "pop" apos) [a] [] pos) (dE X.K W (ePopAt to_ ta)) := by
  refine (pe_bm PySem.F.plainAttrs_list PySem.F.slot_list_pop PySem.F.type_list_pop mt_popAt ho (pa_cons ha pa_nil hs) hbase hfew hline hs hplain).imp fun σ H Q ⟨ρ, μ, S, R, Rx, at_, h, ok, ox⟩ => ?_
  refine ⟨ρ, μ, S, _, Rx, at_, h, fun x S1 v μ1 H1 h1 e1 s1 r1 => ?_, ox⟩
  dsimp only at h1
  split at h1
  · cases r1 with | ref g =>
    obtain ⟨hL, h1⟩ := h1
    obtain ⟨xs0, hx, _⟩ := mlst_inv hL
    obtain ⟨vs0, hv0, _⟩ := s1.lst g hx
    refine ⟨.inl ⟨rfl, _, SqL.of hv0⟩, ρ, μ1, S1, _, Rx, ⟨at_.env.mono e1, s1⟩, h1, fun d S2 u μ2 H2 h2 e2 s2 r2 => ?_, ox.ext e1⟩
    dsimp only at h2
    split at h2
    · cases r2
      obtain ⟨xs, g2, h2⟩ := mlst_inv h2
      have g' := e2.mu _ _ g
      obtain ⟨vs, hv, q⟩ := s2.lst g' g2
      unfold popAtK at h2
      split at h2
      · rename_i k hk
        split at h2
        · rename_i dd hd
          obtain ⟨w, hw, rw_⟩ := q.get hd
          obtain ⟨e', s'⟩ := s2.setLst g' g2 (q.eraseIdx k)
          exact ⟨_, _, _, k, w, rfl, rfl, hv, h2.1.1, h2.1.2, by rw [← q.length]; exact (ixN_seq hk).1, hw, ok _ _ _ _ _ h2.2 ((e1.trans e2).trans e') s' (rw_.mono e')⟩
        · exact h2.elim
      · exact h2.elim
    · exact h2.elim
  · exact h1.elim

/-! ### texts -/
theorem de_fmt (ha : PE X a (dE X.K W ta)) : PE X (.FormattedValue a (-1) none pos) (dE X.K W (eFmt ta)) := by
  refine (pe_fmt ha).imp fun σ H Q ⟨ρ, μ, S, R, Rx, at_, h, ok, ox⟩ => ?_
  refine ⟨ρ, μ, S, _, Rx, at_, h, fun x S1 v μ1 H1 h1 e1 s1 r1 => ?_, ox⟩
  dsimp only at h1
  split at h1
  · cases r1
    exact .inl ⟨_, rfl, h1.1, ok _ _ _ _ _ h1.2 e1 s1 (.str _)⟩
  · cases r1
    exact .inr ⟨_, rfl, h1.1, ok _ _ _ _ _ h1.2 e1 s1 (.str _)⟩
  · exact h1.elim
inductive DJ (X : Cx) (W : WX) : List Expr → TDJ → Prop where
  | nil : DJ X W [] jNil
  | cons {e : Expr} {t : TD} {es : List Expr} {r : TDJ} (h : PE X e (dE X.K W t)) (q : DJ X W es r) : DJ X W (e :: es) (jCons t r)
theorem dj_ts {es : List Expr} {j : TDJ} (h : DJ X W es j) : ∃ ts, PJ X es ts ∧ ∀ σ H Q acc ρ μ S R Rx, At X.K σ H ρ μ S → j Rx ρ S acc R → (∀ out S' μ' H', R out S' → Ext X.K H μ H' μ' → Sim X.K H' μ' S' → Q out H') → OkX X.K H μ Rx (wAt W σ) → tJs ts acc σ H Q := by
  induction h with
  | nil => exact ⟨[], .nil, fun σ H Q acc ρ μ S R Rx at_ h ok ox => ok _ _ _ _ h Ext.refl at_.sim⟩
  | @cons e t es r h q ih =>
    obtain ⟨ts, hp, hq⟩ := ih
    refine ⟨dE X.K W t :: ts, .cons h hp, fun σ H Q acc ρ μ S R Rx at_ h ok ox => ?_⟩
    refine ⟨ρ, μ, S, _, Rx, at_, h, fun x S1 v μ1 H1 h1 e1 s1 r1 => ?_, ox⟩
    dsimp only at h1
    split at h1
    · cases r1
      exact ⟨_, rfl, h1.1, hq σ H1 Q _ ρ μ1 S1 R Rx ⟨at_.env.mono e1, s1⟩ h1.2 (fun out S' μ' H' h' e s => ok out S' μ' H' h' (e1.trans e) s) (ox.ext e1)⟩
    · exact h1.elim
theorem de_joined {v1 v2 : Expr} {rest : List Expr} {j : TDJ} (h : DJ X W (v1 :: v2 :: rest) j) : PE X (.JoinedStr (v1 :: v2 :: rest) pos) (dE X.K W (eJoined j)) := by
  obtain ⟨ts, hp, hq⟩ := dj_ts h
  exact (pe_joined hp).imp fun σ H Q ⟨ρ, μ, S, R, Rx, at_, h, ok, ox⟩ => hq σ H _ _ ρ μ S _ Rx at_ h (fun out S' μ' H' h' e s => ok _ _ _ _ _ h' e s (.str _)) ox
theorem de_joined1 (ha : PE X a (dE X.K W ta)) : PE X (.JoinedStr [a] pos) (dE X.K W ta) := pe_joined1 ha

/-! ### calls of defs -/
theorem de_call {k : Nat} {f : Addr} {fd : FuncData} {ps : List Str} {sp : DSp} {x : Str} {p : Pos} (F : FnOk X.prog X.w X.K X.mg X.base (L2.CX X.prog X.w) k f fd ps (dSp X.K n sp)) (hr : Room k X.A) (hm : X.mg x = some (.ref f)) (hk : PySem.W.keepIn X.K (.ref f) = true) (hb : Binds X.K fd ps [])
    (tk : Takes X W) (ha : PA X (a :: es) (dA X.K W n tr)) (hg : Gl X x := by rfl) (hdb : (x == ("__debug__" : Str)) = false := by decide) (he : starEach (a :: es) X.env = (false, eval a X.env) :: starEach es X.env := by rfl) (hpl : (backTo pos (starEach es X.env)).any (·.1) = false := by rfl) :
    PE X (.Call (.Name x p) (a :: es) [] pos) (dE X.K W (eCall sp tr)) := by
  refine (pe_callS F hr hg hm hk hb (fun σ => passAt tk σ) ha hdb he hpl).imp fun σ H Q ⟨ρ, μ, S, R, Rx, at_, h, ok, ox⟩ => ?_
  exact ⟨ρ, μ, S, _, Rx, at_, h, fun xs S1 vs μ1 H1 l1 h1 e1 s1 r1 => ⟨xs, μ1, S1, R, Rx, s1, r1, l1, h1.out, ok.ext e1, ox.ext e1⟩, ox⟩
theorem dk_nil : PK X [] (dA X.K W 0 aNil) := ⟨fun pos pins s σ H Q I ⟨ρ, μ, S, R, Rx, at_, h, ok, ox⟩ => pk_nil.run pos pins s σ H Q I (ok _ _ _ _ _ rfl h Ext.refl at_.sim .nil)⟩
theorem dk_cons {kws : List Keyword} {nm : Option Str} {kpos : Pos} (ha : PE X a (dE X.K W ta)) (hr : PK X kws (dA X.K W n tr)) : PK X (⟨nm, a, kpos⟩ :: kws) (dA X.K W (n + 1) (aCons ta tr)) := by
  refine ⟨fun pos pins s σ H Q I ⟨ρ, μ, S, R, Rx, at_, h, ok, ox⟩ => (pk_cons ha hr).run pos pins s σ H Q I ?_⟩
  refine ⟨ρ, μ, S, _, Rx, at_, h, fun d S' v μ' H' h' e s r => ?_, ox⟩
  refine ⟨ρ, μ', S', _, Rx, ⟨at_.env.mono e, s⟩, h', fun ds S2 vs μ2 H2 l2 h2 e2 s2 r2 => ?_, ox.ext e⟩
  exact ok _ _ _ _ _ (by rw [List.length_cons, l2]) h2 (e.trans e2) s2 (.cons (r.mono e2) r2)
theorem vals_pick {vs : List V} {us : List Value} (r : Vals vs us) : ∀ π : List Nat, Vals (pick π vs) (pick π us)
  | [] => .nil
  | i :: π => by
    unfold pick
    rw [List.filterMap_cons, List.filterMap_cons]
    cases e : vs[i]? with
    | none => rw [r.none_of e]; exact vals_pick r π
    | some v =>
      obtain ⟨u, h1, h2⟩ := r.get e
      rw [h1]
      exact .cons h2 (vals_pick r π)
theorem Reps.none_of {K : PySem.W.Frag} {H : Hp} {μ : List Addr} {xs : List D} {vs : List V} {i : Nat} (r : Reps K H μ xs vs) (e : xs[i]? = none) : vs[i]? = none := by
  have h1 := r.length
  have h2 : xs.length ≤ i := List.getElem?_eq_none_iff.mp e
  exact List.getElem?_eq_none_iff.mpr (by omega)
theorem Reps.pick {K : PySem.W.Frag} {H : Hp} {μ : List Addr} {xs : List D} {vs : List V} (r : Reps K H μ xs vs) : ∀ π : List Nat, Reps K H μ (pick π xs) (pick π vs)
  | [] => .nil
  | i :: π => by
    unfold DL.pick
    rw [List.filterMap_cons, List.filterMap_cons]
    cases e : xs[i]? with
    | none => rw [r.none_of e]; exact Reps.pick r π
    | some v =>
      obtain ⟨u, h1, h2⟩ := r.get e
      rw [h1]
      exact .cons h2 (Reps.pick r π)
theorem pick_length {α : Type} {l : List α} : ∀ {π : List Nat}, (∀ i ∈ π, i < l.length) → (pick π l).length = π.length
  | [], _ => rfl
  | i :: π, h => by
    unfold pick
    rw [List.filterMap_cons, List.getElem?_eq_getElem (h i (by simp))]
    simp only [List.length_cons]
    rw [show (List.filterMap (fun i => l[i]?) π).length = π.length from pick_length fun j hj => h j (by simp [hj])]
/-- a call with keywords: the j-th parameter is the π[j]-th of what is written -/
structure KPi (K : PySem.W.Frag) (fd : FuncData) (ps : List Str) (n : Nat) (ks : List Str) (π : List Nat) : Prop where
  to : ∀ (s : Shared) (us ws : List Value), us.length = n → ws.length = ks.length → BindsTo s fd ⟨us, ks.zip ws⟩ (ps.zip (pick π (us ++ ws)))
theorem kpi_of {K : PySem.W.Frag} {x qual : Str} {params : Arguments} {body : List Stmt} {scope : Scope} {f : Addr} {fd : FuncData} {ps ks : List Str} {π : List Nat} {n : Nat} (F : FunD K x qual params body scope [] [] f fd)
    (h : ∀ (kV doc pm : Value) (an : Option Addr) (cdv ct : Value) (us ws : List Value), us.length = n → ws.length = ks.length → bindArgs (PySem.W.fnOf x qual params body scope .none kV doc pm an cdv ct) ⟨us, ks.zip ws⟩ = pure (ps.zip (pick π (us ++ ws)))) : KPi K fd ps n ks π := by
  obtain ⟨oc, od, dV, kV, doc, pm, an, cdv, ct, osl, rfl, lk, hcd, hD, hK⟩ := F.ex
  rcases hD with ⟨_, rfl⟩ | ⟨e, _⟩
  · exact ⟨fun s us ws l1 l2 => .of_eq (h kV doc pm an cdv ct us ws l1 l2)⟩
  · exact absurd rfl e
theorem passesE {E : XK} (tk : Takes X W) (σ : L2.St) (h : E = WE W σ) : PassesAt (L2.CX X.prog X.w) X σ E := by
  subst h
  exact passAt tk σ
/-- the callee of a call with keywords runs -/
theorem run_kw {k : Nat} {f : Addr} {fd : FuncData} {ps ks : List Str} {π : List Nat} {sp : DSp} {pins : List (Addr × Obj)} {σ : L2.St} {H : Hp} {s : Shared} {Q : VK} {us ws : List Value} {vs zs : List V} {N : Nat}
    (F : FnOk X.prog X.w X.K X.mg X.base (L2.CX X.prog X.w) k f fd ps (dSp X.K N sp)) (hr : Room k X.A) (hb : KPi X.K fd ps n ks π) (tk : Takes X W) (I : Inv X pins σ H s) (r : Vals vs us) (rz : Vals zs ws) (l1 : vs.length = n) (l2 : zs.length = ks.length)
    (h : dSp X.K N sp (pick π (vs ++ zs)) H Q (WE W σ)) : wpAny (model X.prog X.w) X.A (call (.ref f) us (ks.zip ws)) (EP X pins σ Q) X.xe s := by
  refine wpAny_call (codeAny_mono (F.run X.A X.stack s H ⟨us, ks.zip ws⟩ (pick π (us ++ ws)) (pick π (vs ++ zs)) Q (WE W σ) hr I.env0 (hb.to s us ws (by rw [← r.length, l1]) (by rw [← rz.length, l2])) (vals_pick (r.append rz) π) h) fun res s' hq => ?_)
  rcases res with e | fl
  · exact passAt tk σ pins H s e s' I hq
  · rcases fl with _ | _ | _ | u
    all_goals first | exact I.after hq | exact False.elim hq
def dKw (K : PySem.W.Frag) (W : WX) (n m : Nat) (sp : DSp) (π : List Nat) (tr tk : TDA) : TE := dE K W (eCallK sp π tr tk)
theorem de_callK {k N : Nat} {f : Addr} {fd : FuncData} {ps ks : List Str} {π : List Nat} {sp : DSp} {x : Str} {p : Pos} {kws : List Keyword} (F : FnOk X.prog X.w X.K X.mg X.base (L2.CX X.prog X.w) k f fd ps (dSp X.K N sp)) (hr : Room k X.A) (hm : X.mg x = some (.ref f))
    (hk : PySem.W.keepIn X.K (.ref f) = true) (hb : KPi X.K fd ps n ks π) (hN : π.length = N) (hπ : ∀ i ∈ π, i < n + ks.length) (tks : Takes X W) (ha : PA X (a :: es) (dA X.K W n tr)) (hkw : PK X kws (dA X.K W ks.length tk)) (hg : Gl X x := by rfl)
    (hall : (backToKw pos (keywordEach kws X.env)).all (·.1.isSome) = true := by rfl) (hks : (backToKw pos (keywordEach kws X.env)).filterMap (·.1) = ks := by rfl) (hdb : (x == ("__debug__" : Str)) = false := by decide)
    (he : starEach (a :: es) X.env = (false, eval a X.env) :: starEach es X.env := by rfl) (hpl : ((backTo pos (starEach (a :: es) X.env)).any (·.1) || (backToKw pos (keywordEach kws X.env)).any (·.1.isNone)) = false := by rfl) :
    PE X (.Call (.Name x p) (a :: es) kws pos) (dE X.K W (eCallK sp π tr tk)) := by
  refine ⟨fun pins s σ H Q I ⟨ρ, μ, S, R, Rx, at_, h, ok, ox⟩ => wpAny_Call_Name_kw (ld_glob I hg hm ?_ hdb)⟩
  refine PySem.W.callWith_KW (h₀ := X.base) I.ok.mod.kin hk hall (thn (ha.run pos pins s σ H (fun vs H1 => vs.length = n ∧ dA X.K W ks.length tk σ H1 (fun zs H2 => zs.length = ks.length ∧ dSp X.K N sp (pick π (vs ++ zs)) H2 Q (WE W σ))) I ?_) fun us s1 ⟨vs, H1, I1, r, l1, q⟩ => ?_) hpl he
  · refine ⟨ρ, μ, S, _, Rx, at_, h, fun xs S1 vs μ1 H1 l1 h1 e1 s1 r1 => ⟨by rw [← r1.length, l1], ρ, μ1, S1, _, Rx, ⟨at_.env.mono e1, s1⟩, h1, fun ys S2 zs μ2 H2 l2 h2 e2 s2 r2 => ⟨by rw [← r2.length, l2], ?_⟩, ox.ext e1⟩, ox⟩
    refine ⟨_, μ2, S2, R, Rx, s2, ((r1.mono e2).append r2).pick π, ?_, h2.out, ok.ext (e1.trans e2), ox.ext (e1.trans e2)⟩
    rw [pick_length fun i hi => by rw [List.length_append, l1, l2]; exact hπ i hi, hN]
  · refine thn (hkw.run pos pins s1 σ H1 _ I1 q) fun ws s2 ⟨zs, H2, I2, rz, l2, q2⟩ => ⟨I2.kIn, ?_⟩
    rw [hks]
    exact run_kw F hr hb tks I2 r rz l1 l2 q2
/-- .. keywords alone -/
theorem de_callK0 {k N : Nat} {f : Addr} {fd : FuncData} {ps ks : List Str} {π : List Nat} {sp : DSp} {x : Str} {p : Pos} {kws : List Keyword} (F : FnOk X.prog X.w X.K X.mg X.base (L2.CX X.prog X.w) k f fd ps (dSp X.K N sp)) (hr : Room k X.A) (hm : X.mg x = some (.ref f))
    (hk : PySem.W.keepIn X.K (.ref f) = true) (hb : KPi X.K fd ps 0 ks π) (hN : π.length = N) (hπ : ∀ i ∈ π, i < ks.length) (tks : Takes X W) (hkw : PK X kws (dA X.K W ks.length tk)) (hg : Gl X x := by rfl)
    (hall : (backToKw pos (keywordEach kws X.env)).all (·.1.isSome) = true := by rfl) (hks : (backToKw pos (keywordEach kws X.env)).filterMap (·.1) = ks := by rfl) (hdb : (x == ("__debug__" : Str)) = false := by decide)
    (hpl : ((backTo pos (starEach [] X.env)).any (·.1) || (backToKw pos (keywordEach kws X.env)).any (·.1.isNone)) = false := by rfl) :
    PE X (.Call (.Name x p) [] kws pos) (dE X.K W (eCallK sp π aNil tk)) := by
  refine ⟨fun pins s σ H Q I ⟨ρ, μ, S, R, Rx, at_, h, ok, ox⟩ => wpAny_Call_Name_kw (ld_glob I hg hm ?_ hdb)⟩
  refine PySem.W.callWith_KW0 (h₀ := X.base) I.ok.mod.kin hk hall (thn (hkw.run pos pins s σ H (fun zs H2 => zs.length = ks.length ∧ dSp X.K N sp (pick π ([] ++ zs)) H2 Q (WE W σ)) I ?_) fun ws s2 ⟨zs, H2, I2, rz, l2, q2⟩ => ⟨I2.kIn, ?_⟩) hpl
  · refine ⟨ρ, μ, S, _, Rx, at_, h, fun ys S2 zs μ2 H2 l2 h2 e2 s2 r2 => ⟨by rw [← r2.length, l2], ?_⟩, ox⟩
    refine ⟨_, μ2, S2, R, Rx, s2, (Reps.append .nil r2).pick π, ?_, h2.out, ok.ext e2, ox.ext e2⟩
    rw [pick_length fun i hi => by rw [List.nil_append, l2]; exact hπ i hi, hN]
  · rw [hks]
    exact run_kw (us := []) F hr hb tks I2 .nil rz rfl l2 q2
end
end DL
namespace DL
open PySem PySem.Spec PyProof.Rows L2

/-! ### statements' readings -/
abbrev DEnds.x (E : DEnds) (ρ : Ev) : RX := fun x S => E.ex x ρ S
def sNext : TDS := fun E ρ S => E.nx ρ S
def sBreak : TDS := fun E ρ S => E.bk ρ S
def sCont : TDS := fun E ρ S => E.ct ρ S
def sSeq (t u : TDS) : TDS := fun E ρ S => t { E with nx := u E } ρ S
def sRet (te : TD) : TDS := fun E ρ S => te (E.x ρ) ρ S E.rt
def sRetN : TDS := fun E _ S => E.rt .non S
def sExpr (te : TD) : TDS := fun E ρ S => te (E.x ρ) ρ S fun _ S1 => E.nx ρ S1
def sIf (c : TDT) (t u : TDS) : TDS := fun E ρ S => c (E.x ρ) ρ S fun b S1 => ift b (t E ρ S1) (u E ρ S1)
def sSet (i : Nat) (te : TD) : TDS := fun E ρ S => te (E.x ρ) ρ S fun d S1 => E.nx (ρ.set i (some d)) S1
def sPar (i j : Nat) (ta : TDA) : TDS := fun E ρ S => ta (E.x ρ) ρ S fun xs S1 => match xs with
  | [u, v] => E.nx ((ρ.set i (some u)).set j (some v)) S1
  | _ => False
def sPar3 (i j l : Nat) (ta : TDA) : TDS := fun E ρ S => ta (E.x ρ) ρ S fun xs S1 => match xs with
  | [u, v, w] => E.nx (((ρ.set i (some u)).set j (some v)).set l (some w)) S1
  | _ => False
def sAug (i : Nat) (te : TD) (f : OD) : TDS := fun E ρ S => match ρ[i]? with
  | some (some x) => te (E.x ρ) ρ S fun y S1 => f x y S1 fun z S2 => E.nx (ρ.set i (some z)) S2
  | _ => False
def setK (xs : List D) (k : Int) (z : Nat → Prop) : Prop := match ixN xs.length k with
  | some j => z j
  | none => False
def sSetIx (to_ ti te : TD) : TDS := fun E ρ S => te (E.x ρ) ρ S fun v S1 => to_ (E.x ρ) ρ S1 fun o S2 => ti (E.x ρ) ρ S2 fun i S3 => match o, i with
  | .ref n, .int k => mlstAt n S3 fun xs => setK xs k fun j => E.nx ρ (S3.set n (.lst (xs.set j v)))
  | _, _ => False
def whileN (c : TDT) (t : TDS) (E : DEnds) : Nat → Ev → Sto → Prop
  | 0, _, _ => False
  | n + 1, ρ, S => c (E.x ρ) ρ S fun b S1 => ift b (t { E with nx := whileN c t E n, ct := whileN c t E n, bk := E.nx } ρ S1) (E.nx ρ S1)
def sWhile (c : TDT) (t : TDS) : TDS := fun E ρ S => ∃ n, whileN c t E n ρ S
/-! targets -/
abbrev TDG := D → Ev → Sto → (Ev → Sto → Prop) → Prop
abbrev TDGs := List D → Ev → Sto → (Ev → Sto → Prop) → Prop
def gNm (i : Nat) : TDG := fun d ρ S R => R (ρ.set i (some d)) S
def gsNil : TDGs := fun xs ρ S R => match xs with
  | [] => R ρ S
  | _ :: _ => False
def gsCons (g : TDG) (gs : TDGs) : TDGs := fun xs ρ S R => match xs with
  | x :: r => g x ρ S fun ρ1 S1 => gs r ρ1 S1 R
  | [] => False
def gTp (n : Nat) (gs : TDGs) : TDG := fun d ρ S R => match d with
  | .tup xs => xs.length = n ∧ gs xs ρ S R
  | _ => False
def sAsg (te : TD) (g : TDG) : TDS := fun E ρ S => te (E.x ρ) ρ S fun d S1 => g d ρ S1 E.nx
/-! what is walked -/
abbrev TDI := RX → Ev → Sto → (List D → (Sto → Prop) → Sto → Prop) → Prop
def noG : Sto → Prop := fun _ => True
def iSeq (t : TD) : TDI := fun Rx ρ S R => t Rx ρ S fun d S1 => match d with
  | .tup xs => R xs noG S1
  | .str z => R (z.cps.toList.map fun c => .str ⟨#[c]⟩) noG S1
  | .ref n => iterAt n S1 fun xs G => R xs G S1
  | _ => False
def rangeD (lo : Int) (n : Nat) : List D := (List.range n).map fun (i : Nat) => D.int (lo + (i : Int))
def iRange1 (t : TD) : TDI := fun Rx ρ S R => t Rx ρ S fun d S1 => match d with
  | .int j => (-(2 ^ 62) ≤ j ∧ j < 2 ^ 62) ∧ R (rangeD 0 j.toNat) noG S1
  | _ => False
def iRange2 (t u : TD) : TDI := fun Rx ρ S R => t Rx ρ S fun d S1 => u Rx ρ S1 fun e S2 => match d, e with
  | .int i, .int j => (-(2 ^ 62) ≤ i ∧ i < 2 ^ 62 ∧ -(2 ^ 62) ≤ j ∧ j < 2 ^ 62) ∧ R (rangeD i (j - i).toNat) noG S2
  | _, _ => False
def forW (G : Sto → Prop) (g : TDG) (t : TDS) (E : DEnds) : List D → Ev → Sto → Prop
  | [], ρ, S => G S ∧ E.nx ρ S
  | x :: r, ρ, S => G S ∧ g x ρ S fun ρ1 S1 => t { E with nx := forW G g t E r, ct := forW G g t E r, bk := E.nx } ρ1 S1
def sFor (it : TDI) (g : TDG) (t : TDS) : TDS := fun E ρ S => it (E.x ρ) ρ S fun xs G S1 => forW G g t E xs ρ S1
def noX : RX := fun _ _ => False
def wipeD (ρ : Ev) : List Nat → Ev
  | [] => ρ
  | v :: vs => (wipeD ρ vs).set v none
def lcW (n : Nat) (G : Sto → Prop) (g : TDG) (tt : TDT) (te : TD) (ρ : Ev) (R : Sto → Prop) : List D → Sto → Prop
  | [], S => G S ∧ R S
  | x :: r, S => G S ∧ g x ρ S fun ρ1 S1 => tt noX ρ1 S1 fun b S2 => ift b (te noX ρ1 S2 fun d S3 => mlstAt n S3 fun acc => acc.length < sizeLine ∧ lcW n G g tt te ρ R r (S3.set n (.lst (acc ++ [d])))) (lcW n G g tt te ρ R r S2)
def tYesD : TDT := fun _ _ S R => R true S
def eLC (it : TDI) (g : TDG) (tt : TDT) (te : TD) (vs : List Nat) : TD := fun Rx ρ S R => it Rx ρ S fun xs G S1 => lcW S1.length G g tt te (wipeD ρ vs) (fun S2 => R (.ref S1.length) S2) xs (S1 ++ [.lst []])

def dG (K : PySem.W.Frag) (vs : List Nat) (g : TDG) : TG := fun v σ H Q => ∃ ρ μ S d R, At K σ H ρ μ S ∧ Rep K H μ d v ∧ g d ρ S R ∧ ∀ ρ' S' σ' μ' H', R ρ' S' → wipe σ' vs = wipe σ vs → Ext K H μ H' μ' → At K σ' H' ρ' μ' S' → Q σ' H'
def dGs (K : PySem.W.Frag) (vs : List Nat) (g : TDGs) : TGs := fun us σ H Q => ∃ ρ μ S ds R, At K σ H ρ μ S ∧ Reps K H μ ds us ∧ g ds ρ S R ∧ ∀ ρ' S' σ' μ' H', R ρ' S' → wipe σ' vs = wipe σ vs → Ext K H μ H' μ' → At K σ' H' ρ' μ' S' → Q σ' H'
def WalkD (K : PySem.W.Frag) (H : Hp) (μ : List Addr) (J : It) (xs : List D) (G : Sto → Prop) : Prop := ∃ (Gv : Hp → Prop) (Y : Nat → Hp → V → Hp → Prop), Walk J xs.length Gv Y ∧
  (∀ H' μ' S, Ext K H μ H' μ' → Sim K H' μ' S → G S → Gv H') ∧
  ∀ (i : Nat) v H' H'' μ' S d, Ext K H μ H' μ' → Sim K H' μ' S → G S → xs[i]? = some d → Y i H' v H'' → Ext K H' μ' H'' μ' ∧ Sim K H'' μ' S ∧ Rep K H'' μ' d v
def dI (K : PySem.W.Frag) (W : WX) (it : TDI) : TI := fun σ H R => ∃ ρ μ S Rd Rx, At K σ H ρ μ S ∧ it Rx ρ S Rd ∧ OkX K H μ Rx (wAt W σ) ∧ ∀ xs G S' μ' H' J, Rd xs G S' → Ext K H μ H' μ' → Sim K H' μ' S' → WalkD K H' μ' J xs G → R J H'

section
variable {K : PySem.W.Frag} {H H' : Hp} {μ μ' : List Addr} {S : Sto} {ρ : Ev} {σ : L2.St}
theorem RepE.set (r : RepE K H μ ρ σ) {d : D} {v : V} (q : Rep K H μ d v) (i : Nat) : RepE K H μ (ρ.set i (some d)) (σ.set i (some v)) := by
  refine ⟨by rw [List.length_set, List.length_set, r.len], fun j e he => ?_⟩
  by_cases h : i = j
  · subst h
    have hl : i < ρ.length := by
      have := (List.getElem?_eq_some_iff.mp he).1
      rwa [List.length_set] at this
    rw [List.getElem?_set_self hl] at he
    cases he
    exact ⟨v, by rw [List.getElem?_set_self (by rw [r.len]; exact hl)], q⟩
  · rw [List.getElem?_set_ne h] at he ⊢
    exact r.at_ j e he
theorem RepE.unset (r : RepE K H μ ρ σ) (i : Nat) : RepE K H μ (ρ.set i none) (σ.set i none) := by
  refine ⟨by rw [List.length_set, List.length_set, r.len], fun j e he => ?_⟩
  by_cases h : i = j
  · subst h
    have hl : i < ρ.length := by
      have := (List.getElem?_eq_some_iff.mp he).1
      rwa [List.length_set] at this
    rw [List.getElem?_set_self hl] at he
    cases he
  · rw [List.getElem?_set_ne h] at he ⊢
    exact r.at_ j e he
theorem RepE.wipe (r : RepE K H μ ρ σ) : ∀ vs : List Nat, RepE K H μ (wipeD ρ vs) (L2.wipe σ vs)
  | [] => r
  | v :: vs => (RepE.wipe r vs).unset v
theorem wipe_set {x : Option V} : ∀ {vs : List Nat} {i : Nat} {σ : L2.St}, i ∈ vs → L2.wipe (σ.set i x) vs = L2.wipe σ vs
  | [], _, _, h => by simp at h
  | v :: vs, i, σ, h => by
    show (L2.wipe (σ.set i x) vs).set v none = (L2.wipe σ vs).set v none
    by_cases hi : i ∈ vs
    · rw [wipe_set hi]
    · have hv : i = v := by
        rcases List.mem_cons.mp h with e | e
        · exact e
        · exact absurd e hi
      subst hv
      have key : ∀ (vs : List Nat), L2.wipe (σ.set i x) vs = (L2.wipe σ vs).set i ((L2.wipe (σ.set i x) vs)[i]?.getD none) := by
        intro vs
        induction vs with
        | nil =>
          show σ.set i x = σ.set i ((σ.set i x)[i]?.getD none)
          by_cases hl : i < σ.length
          · rw [List.getElem?_set_self hl]; rfl
          · rw [List.set_eq_of_length_le (by omega), List.set_eq_of_length_le (by omega)]
        | cons w ws ih =>
          show (L2.wipe (σ.set i x) ws).set w none = ((L2.wipe σ ws).set w none).set i (((L2.wipe (σ.set i x) ws).set w none)[i]?.getD none)
          by_cases hw : w = i
          · subst hw
            rw [List.set_set]
            have hlen : (L2.wipe (σ.set w x) ws).length = (L2.wipe σ ws).length := by rw [wipe_length, wipe_length, List.length_set]
            by_cases hl : w < (L2.wipe (σ.set w x) ws).length
            · rw [List.getElem?_set_self hl]
              rw [ih, List.set_set]; rfl
            · have h1 : (L2.wipe (σ.set w x) ws).length ≤ w := by omega
              have h2 : (L2.wipe σ ws).length ≤ w := by omega
              rw [List.set_eq_of_length_le h1, List.set_eq_of_length_le h2]
              exact ih.trans (List.set_eq_of_length_le h2)
          · rw [List.getElem?_set_ne hw, List.set_comm _ _ hw, ← ih]
      rw [key vs, List.set_set]
end

section
variable {X : Cx} {W : WX} {a b c o : Expr} {ta tb te to_ ti : TD} {tc : TDT} {t u : TDS} {pos : Pos} {es : List Expr} {tr : TDA} {n : Nat} {st : Stmt} {rest sa sb : List Stmt}
/-! ### the rules: small statements -/
theorem ds_nil : PSs X [] (dS X.K W sNext) := pss_nil.imp fun Z σ H ⟨ρ, μ, S, E, at_, h, k⟩ => k.nx _ _ _ _ _ h Ext.refl at_
theorem ds_cons (h1 : PS X st (dS X.K W t)) (h2 : PSs X rest (dS X.K W u)) : PSs X (st :: rest) (dS X.K W (sSeq t u)) := by
  refine (pss_cons h1 h2).imp fun Z σ H ⟨ρ, μ, S, E, at_, h, k⟩ => ?_
  exact ⟨ρ, μ, S, _, at_, h, fun ρ' S' σ' μ' H' h' e a' => ⟨ρ', μ', S', E, a', h', k.ext e⟩, k.rt, k.bk, k.ct, k.ex⟩
theorem ds_one (h1 : PS X st (dS X.K W t)) : PSs X [st] (dS X.K W t) := pss_one h1
theorem ds_pass : PS X (.Pass pos) (dS X.K W sNext) := ps_pass.imp fun Z σ H ⟨ρ, μ, S, E, at_, h, k⟩ => k.nx _ _ _ _ _ h Ext.refl at_
theorem ds_break : PS X (.Break pos) (dS X.K W sBreak) := ps_break.imp fun Z σ H ⟨ρ, μ, S, E, at_, h, k⟩ => k.bk _ _ _ _ _ h Ext.refl at_
theorem ds_continue : PS X (.Continue pos) (dS X.K W sCont) := ps_continue.imp fun Z σ H ⟨ρ, μ, S, E, at_, h, k⟩ => k.ct _ _ _ _ _ h Ext.refl at_
theorem ds_ret (ha : PE X a (dE X.K W te)) : PS X (.Return (some a) pos) (dS X.K W (sRet te)) :=
  (ps_ret ha).imp fun Z σ H ⟨ρ, μ, S, E, at_, h, k⟩ => ⟨ρ, μ, S, _, _, at_, h, fun d S' v μ' H' h' e s r => k.rt _ _ _ _ _ h' e s r, k.x at_.env⟩
theorem ds_retN : PS X (.Return none pos) (dS X.K W sRetN) := ps_retN.imp fun Z σ H ⟨ρ, μ, S, E, at_, h, k⟩ => k.rt _ _ _ _ _ h Ext.refl at_.sim .non
theorem ds_expr (ha : PE X a (dE X.K W te)) (hs : swapsWith a none pos.line X.env = pure false := by rfl) : PS X (.Expr a pos) (dS X.K W (sExpr te)) :=
  (ps_expr ha hs).imp fun Z σ H ⟨ρ, μ, S, E, at_, h, k⟩ => ⟨ρ, μ, S, _, _, at_, h, fun d S' v μ' H' h' e s r => k.nx _ _ _ _ _ h' e ⟨at_.env.mono e, s⟩, k.x at_.env⟩
theorem ds_if (hc : PT X c (dT X.K W tc)) (h1 : PSs X sa (dS X.K W t)) (h2 : PSs X sb (dS X.K W u)) : PS X (.If c sa sb pos) (dS X.K W (sIf tc t u)) := by
  refine (ps_if hc h1 h2).imp fun Z σ H ⟨ρ, μ, S, E, at_, h, k⟩ => ?_
  refine ⟨ρ, μ, S, _, _, at_, h, fun b S' μ' H' h' e s => ?_, k.x at_.env⟩
  cases b with
  | true => exact ⟨ρ, μ', S', E, ⟨at_.env.mono e, s⟩, ift_t h', k.ext e⟩
  | false => exact ⟨ρ, μ', S', E, ⟨at_.env.mono e, s⟩, ift_f h', k.ext e⟩
theorem ds_set {i : Nat} {x : Str} {pos' : Pos} (hN : X.N.Nodup) (ha : PE X a (dE X.K W te)) (hi : X.N[i]? = some x := by rfl) (hx : Loc X.env.scope x := by first | exact Or.inl rfl | exact Or.inr rfl) (hs : swapsWith a (some (.Name x pos')) pos.line X.env = pure false := by rfl)
    (hf : X.fn x = true ∨ X.env.scope.names.lookup x = some .local := by first | exact .inl rfl | exact .inr rfl | assumption) : PS X (.Assign [.Name x pos'] a pos) (dS X.K W (sSet i te)) :=
  (ps_set hN hi hx ha hs hf).imp fun Z σ H ⟨ρ, μ, S, E, at_, h, k⟩ => ⟨ρ, μ, S, _, _, at_, h, fun d S' v μ' H' h' e s r => k.nx _ _ _ _ _ h' e ⟨(at_.env.mono e).set r i, s⟩, k.x at_.env⟩
theorem ds_par {i j : Nat} {x y : Str} {px py pt : Pos} {kt k2 : Nat} {pt2 : Pos} (hN : X.N.Nodup) (hc : X.calm = true) (ha : PA X [a, b] (dA X.K W n tr)) (hi : X.N[i]? = some x := by rfl) (hj : X.N[j]? = some y := by rfl) (hij : i ≠ j := by decide)
    (hx : X.env.scope.names.lookup x = some .local := by rfl) (hy : X.env.scope.names.lookup y = some .local := by rfl)
    (hw : swappedStores [.Tuple [.Name x px, .Name y py] kt pt] (.Tuple [a, b] k2 pt2) X.env = pure (some [x, y]) := by rfl) (hs : swapsWithSole [.Tuple [.Name x px, .Name y py] kt pt] (.Tuple [a, b] k2 pt2) pos.line X.env = pure false := by rfl) :
    PS X (.Assign [.Tuple [.Name x px, .Name y py] kt pt] (.Tuple [a, b] k2 pt2) pos) (dS X.K W (sPar i j tr)) := by
  refine (ps_par hc hN hi hj hij hx hy ha hw hs).imp fun Z σ H ⟨ρ, μ, S, E, at_, h, k⟩ => ?_
  refine ⟨ρ, μ, S, _, _, at_, h, fun ds S' vs μ' H' _ h' e s r => ?_, k.x at_.env⟩
  dsimp only at h'
  split at h'
  · cases r with | cons r1 r =>
    cases r with | cons r2 r =>
    cases r
    exact ⟨_, _, rfl, k.nx _ _ _ _ _ h' e ⟨((at_.env.mono e).set r1 i).set r2 j, s⟩⟩
  · exact h'.elim
theorem ds_par3 {i j l : Nat} {x y z : Str} {px py pz pt : Pos} {kt k2 : Nat} {pt2 : Pos} (hN : X.N.Nodup) (hc : X.calm = true) (ha : PA X [a, b, c] (dA X.K W n tr)) (hi : X.N[i]? = some x := by rfl) (hj : X.N[j]? = some y := by rfl) (hl : X.N[l]? = some z := by rfl)
    (hij : i ≠ j := by decide) (hil : i ≠ l := by decide) (hjl : j ≠ l := by decide)
    (hx : X.env.scope.names.lookup x = some .local := by rfl) (hy : X.env.scope.names.lookup y = some .local := by rfl) (hz : X.env.scope.names.lookup z = some .local := by rfl)
    (hw : swappedStores [.Tuple [.Name x px, .Name y py, .Name z pz] kt pt] (.Tuple [a, b, c] k2 pt2) X.env = pure (some [x, y, z]) := by rfl) (hs : swapsWithSole [.Tuple [.Name x px, .Name y py, .Name z pz] kt pt] (.Tuple [a, b, c] k2 pt2) pos.line X.env = pure false := by rfl) :
    PS X (.Assign [.Tuple [.Name x px, .Name y py, .Name z pz] kt pt] (.Tuple [a, b, c] k2 pt2) pos) (dS X.K W (sPar3 i j l tr)) := by
  refine (ps_par3 hc hN hi hj hl hij hil hjl hx hy hz ha hw hs).imp fun Z σ H ⟨ρ, μ, S, E, at_, h, k⟩ => ?_
  refine ⟨ρ, μ, S, _, _, at_, h, fun ds S' vs μ' H' _ h' e s r => ?_, k.x at_.env⟩
  dsimp only at h'
  split at h'
  · cases r with | cons r1 r =>
    cases r with | cons r2 r =>
    cases r with | cons r3 r =>
    cases r
    exact ⟨_, _, _, rfl, k.nx _ _ _ _ _ h' e ⟨(((at_.env.mono e).set r1 i).set r2 j).set r3 l, s⟩⟩
  · exact h'.elim
theorem ds_aug {i : Nat} {x : Str} {op : Operator} {r : R2} {f : OD} {pos' : Pos} (hN : X.N.Nodup) (ha : PE X a (dE X.K W te)) (ho : OpR X (inplaceOp op) r) (br : Br2 X.K r f) (hi : X.N[i]? = some x := by rfl) (hx : Loc X.env.scope x := by first | exact Or.inl rfl | exact Or.inr rfl)
    (hf : X.fn x = true ∨ X.env.scope.names.lookup x = some .local := by first | exact .inl rfl | exact .inr rfl | assumption) : PS X (.AugAssign (.Name x pos') op a pos) (dS X.K W (sAug i te f)) := by
  refine (ps_aug hN hi hx ha ho hf).imp fun Z σ H ⟨ρ, μ, S, E, at_, h, k⟩ => ?_
  unfold sAug at h
  split at h
  · rename_i d ed
    obtain ⟨v, hv, rv⟩ := at_.env.at_ i d ed
    refine ⟨v, hv, ρ, μ, S, _, _, at_, h, fun d2 S' w μ' H' h' e s rw_ => ?_, k.x at_.env⟩
    exact br d d2 S' _ v w μ' H' _ s (rv.mono e) rw_ h' fun d3 S3 z μ3 H3 h3 e3 s3 r3 => k.nx _ _ _ _ _ h3 (e.trans e3) ⟨(at_.env.mono (e.trans e3)).set r3 i, s3⟩
  · exact h.elim
theorem iop_addD : OpR X (inplaceOp .Add) (fun x y H Q => rI0 (fun i j => .int (i + j)) x y H Q ∨ ∃ i j, x = .str i ∧ y = .str j ∧ i.length + j.length ≤ sizeLine ∧ Q (.str (i ++ j)) H) := iop_add.or iop_add_str
def iaddD : OD
  | .int i, .int j => fun S R => R (.int (i + j)) S
  | .str x, .str y => fun S R => x.length + y.length ≤ sizeLine ∧ R (.str (x ++ y)) S
  | _, _ => fun _ _ => False
theorem br_iadd : Br2 X.K (fun x y H Q => rI0 (fun i j => .int (i + j)) x y H Q ∨ ∃ i j, x = .str i ∧ y = .str j ∧ i.length + j.length ≤ sizeLine ∧ Q (.str (i ++ j)) H) iaddD := by
  intro x y S R vx vy μ H Q s r1 r2 h ok
  unfold iaddD at h
  split at h
  · cases r1; cases r2
    exact .inl ⟨_, _, rfl, rfl, ok _ _ _ _ _ h Ext.refl s (.int _)⟩
  · cases r1; cases r2
    exact .inr ⟨_, _, rfl, rfl, h.1, ok _ _ _ _ _ h.2 Ext.refl s (.str _)⟩
  · exact h.elim
theorem ds_augAdd {i : Nat} {x : Str} {pos' : Pos} (hN : X.N.Nodup) (ha : PE X a (dE X.K W te)) (hi : X.N[i]? = some x := by rfl) (hx : Loc X.env.scope x := by first | exact Or.inl rfl | exact Or.inr rfl)
    (hf : X.fn x = true ∨ X.env.scope.names.lookup x = some .local := by first | exact .inl rfl | exact .inr rfl | assumption) : PS X (.AugAssign (.Name x pos') .Add a pos) (dS X.K W (sAug i te iaddD)) := ds_aug hN ha iop_addD br_iadd hi hx hf
theorem ds_augSub {i : Nat} {x : Str} {pos' : Pos} (hN : X.N.Nodup) (ha : PE X a (dE X.K W te)) (hi : X.N[i]? = some x := by rfl) (hx : Loc X.env.scope x := by first | exact Or.inl rfl | exact Or.inr rfl)
    (hf : X.fn x = true ∨ X.env.scope.names.lookup x = some .local := by first | exact .inl rfl | exact .inr rfl | assumption) : PS X (.AugAssign (.Name x pos') .Sub a pos) (dS X.K W (sAug i te subD)) := ds_aug hN ha iop_sub br_sub hi hx hf
theorem ds_setIx {opos : Pos} (he : PE X a (dE X.K W te)) (ho : PE X o (dE X.K W to_)) (hi : PE X b (dE X.K W ti)) (hs : swapsWithSole [.Subscript o b opos] a pos.line X.env = pure false := by rfl) (hw : swappedStores [.Subscript o b opos] a X.env = pure none := by rfl)
    (h1 : (assignEach [.Subscript o b opos] X.env).map (·.2) = [assign (.Subscript o b opos) X.env] := by rfl)
    (hp : ∀ v, assign (.Subscript o b opos) X.env v = (do
      let ov ← holding [v] (eval o X.env)
      let iv ← holding [v, ov] (eval b X.env)
      standAt opos
      holding [v, ov, iv] (setItem ov iv v)
      release [v, ov, iv] []) := by intro _; rfl) :
    PS X (.Assign [.Subscript o b opos] a pos) (dS X.K W (sSetIx to_ ti te)) := by
  refine (ps_asg he (pg_sub ho hi set_list hp) hs hw h1).imp fun Z σ H ⟨ρ, μ, S, E, at_, h, k⟩ => ?_
  refine ⟨ρ, μ, S, _, _, at_, h, fun v S1 vv μ1 H1 h1 e1 s1 r1 => ?_, k.x at_.env⟩
  refine ⟨ρ, μ1, S1, _, _, ⟨at_.env.mono e1, s1⟩, h1, fun ob S2 vo μ2 H2 h2 e2 s2 r2 => ?_, (k.x at_.env).ext e1⟩
  refine ⟨ρ, μ2, S2, _, _, ⟨at_.env.mono (e1.trans e2), s2⟩, h2, fun ix S3 vi μ3 H3 h3 e3 s3 r3 => ?_, (k.x at_.env).ext (e1.trans e2)⟩
  have rv := r1.mono (e2.trans e3)
  have ro := r2.mono e3
  have e := (e1.trans e2).trans e3
  dsimp only at h3
  split at h3
  · cases r3
    cases ro with | ref g =>
    obtain ⟨xs, g3, h3⟩ := mlst_inv h3
    obtain ⟨us, hu, q⟩ := s3.lst g g3
    unfold setK at h3
    split at h3
    · rename_i j hj
      obtain ⟨e', s'⟩ := s3.setLst g g3 (q.set rv j)
      exact ⟨_, us, _, j, rfl, rfl, hu, by rw [← q.length]; exact hj, k.nx _ _ _ _ _ h3 (e.trans e') ⟨(at_.env.mono e).mono e', s'⟩⟩
    · exact h3.elim
  · exact h3.elim

/-! ### while -/
theorem ds_while (hp : PassesOwn (model X.prog X.w) X.A X.env X.xe) (hc : PT X c (dT X.K W tc)) (hb : PSs X sa (dS X.K W t)) : PS X (.While c sa [] pos) (dS X.K W (sWhile tc t)) := by
  refine (ps_while hp hc hb).imp fun Z σ H ⟨ρ, μ, S, E, at_, ⟨n, h⟩, k⟩ => ?_
  refine ⟨fun m σ' H' => ∃ ρ' μ' S', Ext X.K H μ H' μ' ∧ At X.K σ' H' ρ' μ' S' ∧ whileN tc t E m ρ' S', ⟨n, ρ, μ, S, Ext.refl, at_, h⟩, ?_⟩
  rintro m σ1 H1 ⟨ρ1, μ1, S1, e1, at1, h1⟩
  cases m with
  | zero => exact h1.elim
  | succ m =>
    refine ⟨ρ1, μ1, S1, _, _, at1, h1, fun b S2 μ2 H2 h2 e2 s2 => ?_, (k.ext e1).x at1.env⟩
    cases b with
    | false => exact k.nx _ _ _ _ _ (ift_f h2) (e1.trans e2) ⟨at1.env.mono e2, s2⟩
    | true =>
      replace h2 := ift_t h2
      refine ⟨fun σ' H' => ∃ ρ' μ' S', Ext X.K H μ H' μ' ∧ At X.K σ' H' ρ' μ' S' ∧ whileN tc t E m ρ' S', fun σ' H' hh => ⟨m, Nat.lt_succ_self m, hh⟩, ?_⟩
      have k2 := k.ext (e1.trans e2)
      refine ⟨ρ1, μ2, S2, _, ⟨at1.env.mono e2, s2⟩, h2, fun ρ' S' σ' μ' H' hh e a' => ?_, fun d S' v μ' H' hh e a' r => k2.rt _ _ _ _ _ hh e a' r, fun ρ' S' σ' μ' H' hh e a' => k2.nx _ _ _ _ _ hh e a', fun ρ' S' σ' μ' H' hh e a' => ?_, fun x ρ' S' cl dx σ' μ' H' hh e a' r => k2.ex _ _ _ _ _ _ _ _ hh e a' r⟩
      · exact ⟨ρ', μ', S', (e1.trans e2).trans e, a', hh⟩
      · exact ⟨ρ', μ', S', (e1.trans e2).trans e, a', hh⟩
/-! ### targets -/
theorem dg_name {i : Nat} {x : Str} {vs : List Nat} (hN : X.N.Nodup) (hv : i ∈ vs) (hi : X.N[i]? = some x := by rfl) (hx : Loc X.env.scope x := by first | exact Or.inl rfl | exact Or.inr rfl)
    (hf : X.fn x = true ∨ X.env.scope.names.lookup x = some .local := by first | exact .inl rfl | exact .inr rfl | assumption) : PG X (.Name x pos) (dG X.K vs (gNm i)) :=
  ⟨fun pins s σ H v u Q I r ⟨ρ, μ, S, d, R, at_, rd, h, k⟩ => (pg_name hN hi hx hf).run pins s σ H v u Q I r (k _ _ _ _ _ h (wipe_set hv) Ext.refl ⟨at_.env.set rd i, at_.sim⟩)⟩
theorem dgs_nil {vs : List Nat} : PGs X [] (dGs X.K vs gsNil) :=
  ⟨fun pins s σ H us ws Q I r ⟨ρ, μ, S, ds, R, at_, rd, h, k⟩ => pgs_nil.run pins s σ H us ws Q I r (by
    unfold gsNil at h
    split at h
    · cases rd; exact ⟨rfl, k _ _ _ _ _ h rfl Ext.refl at_⟩
    · exact h.elim)⟩
theorem dgs_cons {vs : List Nat} {g : TDG} {gs : TDGs} (h1 : PG X a (dG X.K vs g)) (h2 : PGs X es (dGs X.K vs gs)) (hs : (assignEach (a :: es) X.env).map (·.2) = assign a X.env :: (assignEach es X.env).map (·.2) := by rfl) : PGs X (a :: es) (dGs X.K vs (gsCons g gs)) :=
  ⟨fun pins s σ H us ws Q I r ⟨ρ, μ, S, ds, R, at_, rd, h, k⟩ => (pgs_cons h1 h2 hs).run pins s σ H us ws Q I r (by
    unfold gsCons at h
    split at h
    · cases rd with | cons r1 r2 =>
      refine ⟨_, _, rfl, ρ, μ, S, _, _, at_, r1, h, fun ρ' S' σ' μ' H' hh w e a' => ?_⟩
      exact ⟨ρ', μ', S', _, _, a', r2.mono e, hh, fun ρ2 S2 σ2 μ2 H2 hh2 w2 e2 a2 => k _ _ _ _ _ hh2 (w2.trans w) (e.trans e2) a2⟩
    · exact h.elim)⟩
theorem dg_tup {vs : List Nat} {gs : TDGs} {kt n : Nat} (hc : X.calm = true) (h : PGs X es (dGs X.K vs gs)) (hn : (assignEach es X.env).length = n := by rfl) (hst : (assignEach es X.env).findIdx? (·.1) = none := by rfl) : PG X (.Tuple es kt pos) (dG X.K vs (gTp n gs)) :=
  ⟨fun pins s σ H v u Q I r ⟨ρ, μ, S, d, R, at_, rd, hh, k⟩ => (pg_tup hc h hn hst).run pins s σ H v u Q I r (by
    unfold gTp at hh
    split at hh
    · cases rd with | tup tt q =>
      exact ⟨_, _, rfl, tt, by rw [← q.length]; exact hh.1, ρ, μ, S, _, R, at_, q, hh.2, k⟩
    · exact hh.elim)⟩
theorem ds_asg {tg : Expr} {vs : List Nat} {g : TDG} (he : PE X a (dE X.K W te)) (hg : PG X tg (dG X.K vs g)) (hs : swapsWithSole [tg] a pos.line X.env = pure false := by rfl) (hw : swappedStores [tg] a X.env = pure none := by rfl) (h1 : (assignEach [tg] X.env).map (·.2) = [assign tg X.env] := by rfl) :
    PS X (.Assign [tg] a pos) (dS X.K W (sAsg te g)) := by
  refine (ps_asg he hg hs hw h1).imp fun Z σ H ⟨ρ, μ, S, E, at_, h, k⟩ => ?_
  refine ⟨ρ, μ, S, _, _, at_, h, fun d S' v μ' H' h' e s r => ?_, k.x at_.env⟩
  exact ⟨ρ, μ', S', d, _, ⟨at_.env.mono e, s⟩, r, h', fun ρ2 S2 σ2 μ2 H2 hh w e2 a2 => k.nx _ _ _ _ _ hh (e.trans e2) a2⟩

/-! ### for -/
theorem ds_for {tg iter : Expr} {it : TDI} {vs : List Nat} {g : TDG} (hp : PassesOwn (model X.prog X.w) X.A X.env X.xe) (hc : X.calm = true) (hi : PI X tg iter (dI X.K W it)) (hg : PG X tg (dG X.K vs g)) (hb : PSs X sa (dS X.K W t)) (hs : ∀ x, foldedSetIterable iter X.env x = pure x := by intro _; rfl) :
    PS X (.For tg iter sa [] pos) (dS X.K W (sFor it g t)) := by
  refine (ps_for hp hc hi hg hb hs).imp fun Z σ H ⟨ρ, μ, S, E, at_, h, k⟩ => ?_
  refine ⟨ρ, μ, S, _, _, at_, h, k.x at_.env, fun xs G S1 μ1 H1 J h1 e1 s1 hw => ?_⟩
  obtain ⟨Gv, Y, w, hG, hY⟩ := hw
  refine for_it w (fun i σ' H' => ∃ ρ' μ' S', Ext X.K H1 μ1 H' μ' ∧ At X.K σ' H' ρ' μ' S' ∧ forW G g t E (xs.drop i) ρ' S') ⟨ρ, μ1, S1, Ext.refl, ⟨at_.env.mono e1, s1⟩, by rw [List.drop_zero]; exact h1⟩ ?_ ?_ ?_
  · rintro i σ' H' hi ⟨ρ', μ', S', e', a', hf⟩
    refine hG H' μ' S' e' a'.sim ?_
    cases hd : xs.drop i with
    | nil => rw [hd] at hf; exact hf.1
    | cons x r => rw [hd] at hf; exact hf.1
  · rintro i v σ' H' H'' hi ⟨ρ', μ', S', e', a', hf⟩ hy
    have hd : xs[i]? = some xs[i] := List.getElem?_eq_getElem hi
    rw [List.drop_eq_getElem_cons hi] at hf
    obtain ⟨hGS, hf⟩ := hf
    obtain ⟨e2, s2, r2⟩ := hY i v H' H'' μ' S' xs[i] e' a'.sim hGS hd hy
    refine ⟨ρ', μ', S', _, _, ⟨a'.env.mono e2, s2⟩, r2, hf, fun ρ3 S3 σ3 μ3 H3 h3 _ e3 a3 => ?_⟩
    have k3 := k.ext (e1.trans (e'.trans (e2.trans e3)))
    refine ⟨ρ3, μ3, S3, _, a3, h3, fun ρ4 S4 σ4 μ4 H4 hh e4 a4 => ?_, fun d S4 v4 μ4 H4 hh e4 a4 r4 => k3.rt _ _ _ _ _ hh e4 a4 r4, fun ρ4 S4 σ4 μ4 H4 hh e4 a4 => k3.nx _ _ _ _ _ hh e4 a4, fun ρ4 S4 σ4 μ4 H4 hh e4 a4 => ?_, fun x ρ4 S4 cl dx σ4 μ4 H4 hh e4 a4 r4 => k3.ex _ _ _ _ _ _ _ _ hh e4 a4 r4⟩
    · exact ⟨ρ4, μ4, S4, (e'.trans (e2.trans e3)).trans e4, a4, hh⟩
    · exact ⟨ρ4, μ4, S4, (e'.trans (e2.trans e3)).trans e4, a4, hh⟩
  · rintro σ' H' ⟨ρ', μ', S', e', a', hf⟩
    rw [List.drop_length] at hf
    exact k.nx _ _ _ _ _ hf.2 (e1.trans e') a'
/-! ### comprehensions -/
theorem lc_step {it : TDI} {vs : List Nat} {g : TDG} {tt : TDT} {σ : L2.St} {H : Hp} {Q : VK} (h : dE X.K W (eLC it g tt te vs) σ H Q) (W0 : WX) : tLc (dI X.K W it) (dG X.K vs g) (dT X.K W0 tt) (dE X.K W0 te) vs σ H Q := by
  obtain ⟨ρ, μ, S, R, Rx, at_, h, ok, ox⟩ := h
  refine ⟨ρ, μ, S, _, Rx, at_, h, ox, fun xs G S1 μ1 H1 J h1 e1 s1 hw Dp hD => ?_⟩
  obtain ⟨Gv, Y, w, hG, hY⟩ := hw
  obtain ⟨e2, s2, r2⟩ := s1.newLst (xs := []) hD .nil
  have nX : ∀ (H' : Hp) (μ' : List Addr) σ', OkX X.K H' μ' noX (wAt W0 σ') := fun _ _ _ _ _ _ _ _ _ z => False.elim z
  refine lc_it w (fun i H' => ∃ μ' S', Ext X.K (upd H1 Dp (.lst [])) (μ1 ++ [Dp]) H' μ' ∧ Sim X.K H' μ' S' ∧ lcW S1.length G g tt te (wipeD ρ vs) (fun S2 => R (.ref S1.length) S2) (xs.drop i) S') ⟨_, _, Ext.refl, s2, by rw [List.drop_zero]; exact h1⟩ ?_ ?_ ?_
  · rintro i H' hi ⟨μ', S', e', a', hf⟩
    refine hG H' μ' S' (e2.trans e') a' ?_
    cases hd : xs.drop i with
    | nil => rw [hd] at hf; exact hf.1
    | cons x r => rw [hd] at hf; exact hf.1
  · rintro i v H' H'' hi ⟨μ', S', e', a', hf⟩ hy
    have hd : xs[i]? = some xs[i] := List.getElem?_eq_getElem hi
    rw [List.drop_eq_getElem_cons hi] at hf
    obtain ⟨hGS, hf⟩ := hf
    obtain ⟨e3, s3, r3⟩ := hY i v H' H'' μ' S' xs[i] (e2.trans e') a' hGS hd hy
    have env0 := ((at_.env.mono e1).mono (e2.trans (e'.trans e3))).wipe vs
    refine ⟨wipeD ρ vs, μ', S', _, _, ⟨env0, s3⟩, r3, hf, fun ρ4 S4 σ4 μ4 H4 h4 w4 e4 a4 => ?_⟩
    have hwipe : wipe σ4 vs = wipe σ vs := by
      rw [w4]
      have idem : ∀ (l : List Nat) (τ : L2.St), (∀ i ∈ l, i ∈ vs) → wipe (wipe τ l) vs = wipe τ vs := by
        intro l
        induction l with
        | nil => intro τ _; rfl
        | cons x l ih =>
          intro τ hl
          show wipe ((wipe τ l).set x none) vs = _
          rw [wipe_set (hl x (by simp))]
          exact ih τ fun i hi => hl i (by simp [hi])
      exact idem vs σ fun _ h => h
    refine ⟨hwipe, ρ4, μ4, S4, _, _, a4, h4, fun b S5 μ5 H5 h5 e5 s5 => ?_, nX _ _ _⟩
    have e05 := e'.trans (e3.trans (e4.trans e5))
    cases b with
    | false => exact ⟨μ5, S5, e05, s5, ift_f h5⟩
    | true =>
      replace h5 := ift_t h5
      refine ⟨ρ4, μ5, S5, _, _, ⟨a4.env.mono e5, s5⟩, h5, fun d S6 v6 μ6 H6 h6 e6 s6 r6 => ?_, nX _ _ _⟩
      obtain ⟨acc, g6, h6⟩ := mlst_inv h6
      have e06 := e05.trans e6
      have gD : μ6[S1.length]? = some Dp := by
        cases r2 with | ref gg => exact e06.mu _ _ gg
      obtain ⟨us, hu, q⟩ := s6.lst gD g6
      obtain ⟨e7, s7⟩ := s6.setLst gD g6 (q.append (.cons r6 .nil))
      exact ⟨us, hu, by rw [← q.length]; exact h6.1, μ6, _, e06.trans e7, s7, h6.2⟩
  · rintro H' ⟨μ', S', e', a', hf⟩
    rw [List.drop_length] at hf
    exact ok _ _ _ _ _ hf.2 (e1.trans (e2.trans e')) a' (r2.mono e')
theorem dts_nil : PTs X [] (dT X.K W tYesD) := ⟨fun pins s σ H Q I ⟨ρ, μ, S, R, Rx, at_, h, ok, ox⟩ => pts_nil.run pins s σ H Q I (ok _ _ _ _ h Ext.refl at_.sim)⟩
theorem dts_one (h : PT X c (dT X.K W tc)) : PTs X [c] (dT X.K W tc) := pts_one h
abbrev W0 : WX := fun _ _ _ _ => False
theorem de_lc {tg iter : Expr} {ifs : List Expr} {scope : Scope} {own : List (Str × Nat)} {it : TDI} {g : TDG} {tt : TDT} (hc : X.calm = true) (hN : X.N.Nodup) (ok : blkC X.N X.env.scope scope own = true) (hi : PI X tg iter (dI X.K W it))
    (hg : ∀ (s : Shared) (H : Hp) (C : Addr) (cl : List (Str × Addr)) (fp : List Addr), PG (X.blk s H scope (compEnvC scope cl C X.env) fp) tg (dG X.K (own.map (·.2)) g))
    (ht : ∀ (s : Shared) (H : Hp) (C : Addr) (cl : List (Str × Addr)) (fp : List Addr), PTs (X.blk s H scope (compEnvC scope cl C X.env) fp) ifs (dT X.K W0 tt))
    (he : ∀ (s : Shared) (H : Hp) (C : Addr) (cl : List (Str × Addr)) (fp : List Addr), PE (X.blk s H scope (compEnvC scope cl C X.env) fp) a (dE X.K W0 te)) (hs : ∀ x, foldedSetIterable iter X.env x = pure x := by intro _; rfl) :
    PE X (.ListComp a [⟨tg, iter, ifs, 0⟩] scope pos) (dE X.K W (eLC it g tt te (own.map (·.2)))) :=
  (pe_lc hc hN hi (blkOk_by ok) hg ht he hs).imp fun _ _ _ h => lc_step h W0
theorem ds_setLc {i : Nat} {y : Str} {py : Pos} {tg iter : Expr} {ifs : List Expr} {scope : Scope} {own : List (Str × Nat)} {it : TDI} {g : TDG} {tt : TDT} {lpos : Pos} (hc : X.calm = true) (hN : X.N.Nodup) (ok : blkC X.N X.env.scope scope own = true)
    (ha : (scope.names.any fun (n, k) => n == y && (k == .local || k == .cell)) = false) (hi : PI X tg iter (dI X.K W it))
    (hg : ∀ (s : Shared) (H : Hp) (C : Addr) (cl : List (Str × Addr)) (fp : List Addr), PG (X.blk s H scope (compEnvC scope cl C X.env) fp) tg (dG X.K (own.map (·.2)) g))
    (ht : ∀ (s : Shared) (H : Hp) (C : Addr) (cl : List (Str × Addr)) (fp : List Addr), PTs (X.blk s H scope (compEnvC scope cl C X.env) fp) ifs (dT X.K W0 tt))
    (he : ∀ (s : Shared) (H : Hp) (C : Addr) (cl : List (Str × Addr)) (fp : List Addr), PE (X.blk s H scope (compEnvC scope cl C X.env) fp) a (dE X.K W0 te))
    (hy : X.N[i]? = some y := by rfl) (hyl : X.env.scope.names.lookup y = some .local := by rfl) (hk : X.env.scope.kind = .function := by rfl) (hl : (py.line == lpos.line) = true := by rfl) (hs : ∀ x, foldedSetIterable iter X.env x = pure x := by intro _; rfl) :
    PS X (.Assign [.Name y py] (.ListComp a [⟨tg, iter, ifs, 0⟩] scope lpos) pos) (dS X.K W (sSet i (eLC it g tt te (own.map (·.2))))) := by
  refine (ps_setLc hc hN hy hyl (sw_true hk hyl hl ha) hi (blkOk_by ok) hg ht he hs).imp fun Z σ H ⟨ρ, μ, S, E, at_, h, k⟩ => ?_
  exact lc_step (W := W) ⟨ρ, μ, S, _, _, at_, h, fun d S' v μ' H' h' e s r => k.nx _ _ _ _ _ h' e ⟨(at_.env.mono e).set r i, s⟩, k.x at_.env⟩ W0
end
end DL
namespace DL
open PySem PySem.Spec PyProof.Rows L2

section
variable {X : Cx} {W : WX} {a b : Expr} {ta tb : TD} {pos : Pos} {tg : Expr}
/-! ### an iterator over a value -/
theorem it_lst {pins : List (Addr × Obj)} {σ : L2.St} {H : Hp} {s : Shared} {p : Addr} {xs : List V} {R : It → Hp → Prop} (I : Inv X pins σ H s) (h : SqL X.K H p xs) (q : R (Itl X.K p) H) : wpAny (model X.prog X.w) X.A (pyIter (.ref p)) (PIE X pins σ tg R) X.xe s := by
  obtain ⟨its, _, pl, _⟩ := I.list h
  refine wpAny_pyIter_list pl.isList ⟨s.heap.objs.size, [s.heap.objs.size], _, _, H, rfl, I.kept (t' := s.toks) fun _ _ e => Heap.get?_push_of_some _ e, turn_list p _, ⟨_, Heap.get?_push_size _ rfl, rfl, rfl⟩, fun c hc => ?_, q⟩
  obtain rfl : c = s.heap.objs.size := by simpa using hc
  exact I.fpOk (Nat.le_refl _) (I.hok.fresh (Nat.le_refl _))
theorem it_tup {pins : List (Addr × Obj)} {σ : L2.St} {H : Hp} {s : Shared} {p : Addr} {xs : List V} {R : It → Hp → Prop} (I : Inv X pins σ H s) (h : SqT X.K H p xs) (q : R (Itt X.K p) H) : wpAny (model X.prog X.w) X.A (pyIter (.ref p)) (PIE X pins σ tg R) X.xe s := by
  obtain ⟨its, _, pl, _⟩ := I.tuple h
  refine wpAny_pyIter_tuple (show s.heap.IsTuple p its.toArray from pl) ⟨s.heap.objs.size, [s.heap.objs.size], _, _, H, rfl, I.kept (t' := s.toks) fun _ _ e => Heap.get?_push_of_some _ e, turn_tuple p _, ⟨_, Heap.get?_push_size _ rfl, rfl, rfl⟩, fun c hc => ?_, q⟩
  obtain rfl : c = s.heap.objs.size := by simpa using hc
  exact I.fpOk (Nat.le_refl _) (I.hok.fresh (Nat.le_refl _))
def iSeqV (K : PySem.W.Frag) (tl : TE) : TI := fun σ H R => tl σ H fun x H1 => (∃ p xs, x = .ref p ∧ SqL K H1 p xs ∧ R (Itl K p) H1) ∨ (∃ p xs, x = .ref p ∧ SqT K H1 p xs ∧ R (Itt K p) H1) ∨ ∃ z, x = .str z ∧ R (Its z) H1
theorem pi_seqV {tl : TE} (hl : PE X a tl) : PI X tg a (iSeqV X.K tl) := by
  refine ⟨fun pins s σ H R I h => thn (hl.run pins s σ H _ I h) fun v s1 ⟨x, H1, I1, r1, q1⟩ => ?_⟩
  rcases q1 with ⟨p, xs, rfl, hq, q⟩ | ⟨p, xs, rfl, hq, q⟩ | ⟨z, rfl, q⟩
  · cases r1
    exact it_lst I1 hq q
  · cases r1
    exact it_tup I1 hq q
  · obtain ⟨t, rfl⟩ := r1
    cases hz : z.cps.all (· < 128) with
    | false => exact wpAny_pyIter_wide hz (pi_one (tk := s1.toks) I1 _ (turn_str _ z t "str_iterator" (.inr rfl)) ⟨_, Heap.get?_push_size _ rfl, rfl, rfl⟩ q)
    | true => exact wpAny_pyIter_ascii hz (pi_one (tk := s1.toks) I1 _ (turn_str _ z t "str_ascii_iterator" (.inl rfl)) ⟨_, Heap.get?_push_size _ rfl, rfl, rfl⟩ q)
theorem _root_.L2.PI.imp {X : Cx} {tg e : Expr} {t t' : TI} (h : PI X tg e t) (i : ∀ σ H R, t' σ H R → t σ H R) : PI X tg e t' := ⟨fun pins s σ H R I q => h.run pins s σ H R I (i σ H R q)⟩
theorem wd_lst {K : PySem.W.Frag} {H : Hp} {μ : List Addr} {n : Nat} {p : Addr} {xs : List D} (g : μ[n]? = some p) : WalkD K H μ (Itl K p) xs (fun S => S[n]? = some (.lst xs)) := by
  refine ⟨fun H' => ∃ vs, vs.length = xs.length ∧ SqL K H' p vs, fun i H' v H'' => H'' = H' ∧ ∀ vs, SqL K H' p vs → vs[i]? = some v, ⟨?_, ?_, ?_⟩, ?_, ?_⟩
  · rintro i H' hi ⟨vs, hl, hq⟩
    exact ⟨vs, vs[i]'(by omega), hq, List.getElem?_eq_getElem _⟩
  · rintro H' ⟨vs, hl, hq⟩
    exact ⟨vs, hq, by omega⟩
  · rintro i H' x H'' hi ⟨vs, hl, hq⟩ ⟨e, hy⟩
    exact ⟨e, hy⟩
  · intro H' μ' S e s hS
    obtain ⟨vs, hv, q⟩ := s.lst (e.mu _ _ g) hS
    exact ⟨vs, q.length.symm, SqL.of hv⟩
  · rintro i v H' H'' μ' S d e s hS hd ⟨rfl, hy⟩
    obtain ⟨vs, hv, q⟩ := s.lst (e.mu _ _ g) hS
    obtain ⟨u, hu, ru⟩ := q.get hd
    have := hy vs (SqL.of hv)
    rw [hu] at this; cases this
    exact ⟨Ext.refl, s, ru⟩
theorem wd_fix {K : PySem.W.Frag} {H : Hp} {μ : List Addr} {n : Nat} {p : Addr} {xs : List D} (g : μ[n]? = some p) : WalkD K H μ (Itl K p) xs (fun S => S[n]? = some (.fix xs)) := by
  refine ⟨fun H' => ∃ vs, vs.length = xs.length ∧ SqL K H' p vs, fun i H' v H'' => H'' = H' ∧ ∀ vs, SqL K H' p vs → vs[i]? = some v, ⟨?_, ?_, ?_⟩, ?_, ?_⟩
  · rintro i H' hi ⟨vs, hl, hq⟩
    exact ⟨vs, vs[i]'(by omega), hq, List.getElem?_eq_getElem _⟩
  · rintro H' ⟨vs, hl, hq⟩
    exact ⟨vs, hq, by omega⟩
  · rintro i H' x H'' hi ⟨vs, hl, hq⟩ ⟨e, hy⟩
    exact ⟨e, hy⟩
  · intro H' μ' S e s hS
    obtain ⟨vs, hv, q⟩ := s.fix (e.mu _ _ g) hS
    exact ⟨vs, q.length.symm, hv.sql⟩
  · rintro i v H' H'' μ' S d e s hS hd ⟨rfl, hy⟩
    obtain ⟨vs, hv, q⟩ := s.fix (e.mu _ _ g) hS
    obtain ⟨u, hu, ru⟩ := q.get hd
    have := hy vs hv.sql
    rw [hu] at this; cases this
    exact ⟨Ext.refl, s, ru⟩
theorem wd_tup {K : PySem.W.Frag} {H : Hp} {μ : List Addr} {p : Addr} {xs : List D} {vs : List V} (h : SqT K H p vs) (q : Reps K H μ xs vs) : WalkD K H μ (Itt K p) xs noG := by
  refine ⟨fun H' => SqT K H' p vs, YAt vs, ?_, fun H' μ' S e s _ => e.tup _ _ h, ?_⟩
  · rw [q.length]; exact walk_tup
  · rintro i v H' H'' μ' S d e s hS hd ⟨rfl, hy⟩
    obtain ⟨u, hu, ru⟩ := (q.mono e).get hd
    rw [hu] at hy; cases hy
    exact ⟨Ext.refl, s, ru⟩
theorem wd_str {K : PySem.W.Frag} {H : Hp} {μ : List Addr} {z : Str} : WalkD K H μ (Its z) (z.cps.toList.map fun c => .str ⟨#[c]⟩) noG := by
  refine ⟨fun _ => True, fun i H v H' => H' = H ∧ ∃ c, z.cps[i]? = some c ∧ v = .str ⟨#[c]⟩, ?_, fun _ _ _ _ _ _ => trivial, ?_⟩
  · rw [List.length_map, Array.length_toList]; exact walk_str
  · rintro i v H' H'' μ' S d e s hS hd ⟨rfl, c, hc, rfl⟩
    rw [List.getElem?_map, Array.getElem?_toList, hc] at hd
    cases hd
    exact ⟨Ext.refl, s, .str _⟩
theorem wd_range {K : PySem.W.Frag} {H : Hp} {μ : List Addr} {lo : Int} {n : Nat} : WalkD K H μ (Itr lo n) (rangeD lo n) noG := by
  refine ⟨fun _ => True, YFn fun i => .int (lo + i), ?_, fun _ _ _ _ _ _ => trivial, ?_⟩
  · rw [show (rangeD lo n).length = n by unfold rangeD; rw [List.length_map, List.length_range]]; exact walk_range
  · rintro i v H' H'' μ' S d e s hS hd ⟨rfl, rfl⟩
    unfold rangeD at hd
    rw [List.getElem?_map] at hd
    by_cases hi : i < n
    · rw [List.getElem?_range hi] at hd
      cases hd
      exact ⟨Ext.refl, s, .int _⟩
    · rw [List.getElem?_eq_none (by rw [List.length_range]; omega)] at hd
      cases hd
theorem di_seq (ha : PE X a (dE X.K W ta)) : PI X tg a (dI X.K W (iSeq ta)) := by
  refine (pi_seqV ha).imp fun σ H R ⟨ρ, μ, S, Rd, Rx, at_, h, ox, k⟩ => ?_
  refine ⟨ρ, μ, S, _, Rx, at_, h, fun d S' v μ' H' h' e s r => ?_, ox⟩
  dsimp only at h'
  split at h'
  · cases r with | tup t q =>
    exact .inr (.inl ⟨_, _, rfl, t, k _ _ _ _ _ _ h' e s (wd_tup t q)⟩)
  · cases r
    exact .inr (.inr ⟨_, rfl, k _ _ _ _ _ _ h' e s wd_str⟩)
  · cases r with | ref g =>
    obtain ⟨xs, h'⟩ := iter_inv h'
    rcases h' with ⟨g', h'⟩ | ⟨g', h'⟩
    · obtain ⟨vs, hv, q⟩ := s.lst g g'
      exact .inl ⟨_, _, rfl, SqL.of hv, k _ _ _ _ _ _ h' e s (wd_lst g)⟩
    · obtain ⟨vs, hv, q⟩ := s.fix g g'
      exact .inl ⟨_, _, rfl, hv.sql, k _ _ _ _ _ _ h' e s (wd_fix g)⟩
  · exact h'.elim
theorem di_range1 {p : Pos} (hm : X.mg "range" = none) (ha : PE X a (dE X.K W ta)) (hg : Gl X "range" := by rfl) (hs : starEach [a] X.env = [(false, eval a X.env)] := by rfl) : PI X tg (.Call (.Name "range" p) [a] [] pos) (dI X.K W (iRange1 ta)) := by
  refine (pi_range1 hg hm (pa_cons ha pa_nil hs) hs).imp fun σ H R ⟨ρ, μ, S, Rd, Rx, at_, h, ox, k⟩ => ?_
  refine ⟨ρ, μ, S, _, Rx, at_, h, fun d S' v μ' H' h' e s r => ?_, ox⟩
  dsimp only at h'
  split at h'
  · cases r
    exact ⟨_, rfl, h'.1.1, h'.1.2, k _ _ _ _ _ _ h'.2 e s wd_range⟩
  · exact h'.elim
theorem di_range2 {p : Pos} (hm : X.mg "range" = none) (ha : PE X a (dE X.K W ta)) (hb : PE X b (dE X.K W tb)) (hg : Gl X "range" := by rfl) (hs : starEach [a, b] X.env = [(false, eval a X.env), (false, eval b X.env)] := by rfl) (hs2 : starEach [b] X.env = [(false, eval b X.env)] := by rfl) :
    PI X tg (.Call (.Name "range" p) [a, b] [] pos) (dI X.K W (iRange2 ta tb)) := by
  refine (pi_range2 hg hm (pa_cons ha (pa_cons hb pa_nil hs2) (by rw [hs, hs2])) hs hs2).imp fun σ H R ⟨ρ, μ, S, Rd, Rx, at_, h, ox, k⟩ => ?_
  refine ⟨ρ, μ, S, _, Rx, at_, h, fun x S1 v μ1 H1 h1 e1 s1 r1 => ?_, ox⟩
  refine ⟨ρ, μ1, S1, _, Rx, ⟨at_.env.mono e1, s1⟩, h1, fun y S2 w μ2 H2 h2 e2 s2 r2 => ?_, ox.ext e1⟩
  dsimp only at h2
  split at h2
  · cases r1; cases r2
    exact ⟨_, _, rfl, h2.1, k _ _ _ _ _ _ h2.2 (e1.trans e2) s2 wd_range⟩
  · exact h2.elim
end

/-! ### a def by its body -/
def topEnds (R : RD) (Rx : RX) : DEnds := { nx := fun _ S => R .non S, rt := R, bk := fun _ _ => False, ct := fun _ _ => False, ex := fun x _ S => Rx x S }
/-- the promise of a def whose body reads t: m names, the parameters first -/
def wOf (m : Nat) (t : TDS) : DSp := fun ds S R Rx => t (topEnds R Rx) (ds.map some ++ List.replicate (m - ds.length) none) S
theorem dSp_len {K : PySem.W.Frag} {n : Nat} {sp : DSp} {vs : List V} {H : Hp} {Q : VK} {E : XK} (h : dSp K n sp vs H Q E) : vs.length = n := by
  obtain ⟨ds, μ, S, R, Rx, s, r, l, _⟩ := h
  rw [← r.length, l]
theorem start_rep {K : PySem.W.Frag} {H : Hp} {μ : List Addr} {ds : List D} {vs : List V} (r : Reps K H μ ds vs) (N : List Str) : RepE K H μ (ds.map some ++ List.replicate (N.length - ds.length) none) (L2.start N vs) := by
  unfold L2.start
  refine ⟨by simp [r.length], fun i d h => ?_⟩
  rw [List.getElem?_append] at h
  split at h
  · rename_i hl
    rw [List.length_map] at hl
    rw [List.getElem?_map] at h
    cases e : ds[i]? with
    | none => rw [e] at h; cases h
    | some d' =>
      rw [e] at h
      cases h
      obtain ⟨v, hv, rv⟩ := r.get e
      refine ⟨v, ?_, rv⟩
      rw [List.getElem?_append_left (by rw [List.length_map, ← r.length]; exact hl), List.getElem?_map, hv]
      rfl
  · rw [List.getElem?_replicate] at h
    split at h <;> cases h
section
variable {P : Program} {w : World} {K : PySem.W.Frag} {mg : Str → Option Value} {base : Heap}
theorem FunD.okD {x qual : Str} {params : Arguments} {body : List Stmt} {scope : Scope} {dvs : List V} {kws : List (Str × V)} {f : Addr} {fd : FuncData} {N ps : List Str} {k n m : Nat} {t : TDS} (F : FunD K x qual params body scope dvs kws f fd) (sc : FnScope N ps scope) (hn : ps.length = n) (hm : N.length = m)
    (hb : ∀ (cdv : Value) (A : Around) (outer : List Env) (s : Shared) (H : Hp) (E : XK), Room k (A.deeper (envOfC qual scope s.heap.objs.size f cdv)) →
      PSs (cxOf (L2.CX P w) P w K mg base N qual scope f cdv A outer s H E) body (dS K (fun cls d _ H' => E cls d H') t)) : FnOk P w K mg base (L2.CX P w) (k + 1) f fd ps (dSp K n (wOf m t)) := by
  refine F.ok sc (fun vs H Q E h => by rw [dSp_len h, hn]) fun cdv A outer s H vs Q E hr h => ⟨_, hb cdv A outer s H E hr, ?_⟩
  obtain ⟨ds, μ, S, R, Rx, sm, r, l, h, ok, ox⟩ := h
  subst hm
  refine ⟨_, μ, S, _, ⟨start_rep r N, sm⟩, h, ?_, ?_, fun _ _ _ _ _ z => False.elim z, fun _ _ _ _ _ z => False.elim z, ?_⟩
  · intro ρ' S' σ' μ' H' h' e a'
    exact ok _ _ _ _ _ h' e a'.sim .non
  · intro d S' v μ' H' h' e s' rv
    exact ok _ _ _ _ _ h' e s' rv
  · intro y ρ' S' cls dx σ' μ' H' h' e a' rx
    exact ox _ _ _ _ _ _ h' e a'.sim rx
end
/-- what the law's def is asked: it answers True to the script's ints -/
theorem law_start {K : PySem.W.Frag} {H : Hp} {a : Addr} {ns : List Int} {sp : DSp} (hO : Only H) (hS : SqL K H a (ns.map V.int)) (h : sp [.ref 0] [.fix (ns.map D.int)] (fun d _ => d = .bl true) noX) : dSp K 1 sp [.ref a] H (fun v _ => v = .bl true) fun _ _ _ => False := by
  have hF : FixL K H a (ns.map V.int) := by
    rcases hS with (hS | ⟨o, hS⟩) | hS
    · rcases hO a with z | ⟨o, xs, z⟩
      · rw [hS] at z; cases z
      · rw [hS] at z; cases z
    · exact .inl ⟨o, hS⟩
    · exact .inr hS
  refine ⟨[.ref 0], [a], [.fix (ns.map D.int)], _, _, ⟨rfl, ?_, ?_⟩, .cons (.ref rfl) .nil, rfl, h, ?_, fun _ _ _ _ _ _ z => False.elim z⟩
  · intro i j b h1 h2 f1 f2
    cases i with
    | zero => cases f1
    | succ i => simp at h1
  · intro i b o h1 h2
    cases i with
    | zero =>
      cases h1; cases h2
      exact ⟨_, hF, Reps.of_ints ns⟩
    | succ i => simp at h1
  · intro d S' v μ' H' hd e s r
    subst hd
    cases r
    rfl
end DL
namespace DL
open PySem PySem.Spec PyProof.Rows L2

/-! ### is True, is False -/
theorem is_bool_gen {M : Model} {A : Around} {E : Value → Shared → Prop} {s : Shared} {Q : Value → Shared → Prop} {v : Value} {k : Bool} (hv : ∀ p, v ≠ .builtin p) (h : Q (.bool (v == .bool k)) s) : wpAny M A (compareOp .Is v (.bool k)) Q E s := by
  cases v <;> first
    | exact wpAny_pure h
    | exact absurd rfl (hv _)
def isBD (k : Bool) : OU := fun x S R => match x with
  | .bl b => R (.bl (b == k)) S
  | _ => R (.bl false) S
section
variable {X : Cx} {W : WX} {a b c : Expr} {ta tb : TD} {pos : Pos} {es : List Expr} {tr tk : TDA} {n : Nat}
theorem op_isB (k : Bool) : OpR X (compareOp .Is) (fun x y H Q => y = .bl k ∧ (∀ b, x ≠ .byt b) ∧ (∀ b, x ≠ .flt b) ∧ Q (.bl (decide (x = .bl k))) H) := by
  intro pins s σ H x y v u Q I rx ry h
  obtain ⟨rfl, hb, hf, q⟩ := h
  cases ry
  have fin : ∀ z : Bool, z = decide (x = .bl k) → EP X pins σ Q (.bool z) s := fun z e => ⟨.bl z, H, I, rfl, by rw [e]; exact q⟩
  cases x with
  | non => cases rx; exact is_bool_gen (fun p z => by cases z) (fin _ (by simp))
  | bl i => cases rx; exact is_bool_gen (fun p z => by cases z) (fin _ (by rw [Bool.eq_iff_iff]; simp))
  | int i => obtain ⟨t, rfl⟩ := rx; exact is_bool_gen (fun p z => by cases z) (fin _ (by simp))
  | str i => obtain ⟨t, rfl⟩ := rx; exact is_bool_gen (fun p z => by cases z) (fin _ (by simp))
  | byt i => exact absurd rfl (hb i)
  | flt i => exact absurd rfl (hf i)
  | ref i => cases rx; exact is_bool_gen (fun p z => by cases z) (fin _ (by simp))
  | ty i => cases rx; exact is_bool_gen (fun p z => by cases z) (fin _ (by simp))
theorem isB_fin {K : PySem.W.Frag} {H : Hp} {μ : List Addr} {S : Sto} {d : D} {v : V} {k : Bool} {R : RD} (r : Rep K H μ d v) (h : isBD k d S R) : R (.bl (decide (v = .bl k))) S := by
  unfold isBD at h
  cases r with
  | bl b =>
    have e : (decide (V.bl b = V.bl k)) = (b == k) := by rw [Bool.eq_iff_iff]; simp
    rw [e]; exact h
  | _ => simpa using h
theorem rep_nobyt {K : PySem.W.Frag} {H : Hp} {μ : List Addr} {d : D} {v : V} (r : Rep K H μ d v) : (∀ b, v ≠ .byt b) ∧ ∀ b, v ≠ .flt b := by
  cases r <;> exact ⟨fun _ z => V.noConfusion z, fun _ z => V.noConfusion z⟩
theorem de_isB {k : Bool} {j pos'} (ha : PE X a (dE X.K W ta)) : PE X (.Compare a [.Is] [.Constant (.bool k) j pos'] pos) (dE X.K W (e1 (isBD k) ta)) := by
  refine (pe_cmpR (op_isB k) ha pe_bl (nomark _)).imp fun σ H Q ⟨ρ, μ, S, R, Rx, at_, h, ok, ox⟩ => ?_
  refine ⟨ρ, μ, S, _, Rx, at_, h, fun d S' v μ' H' h' e s r => ⟨rfl, (rep_nobyt r).1, (rep_nobyt r).2, ok _ _ _ _ _ (isB_fin r h') e s (.bl _)⟩, ox⟩
theorem dt_isB {k : Bool} {j pos'} (ha : PE X a (dE X.K W ta)) : PT X (.Compare a [.Is] [.Constant (.bool k) j pos'] pos) (dT X.K W (tTru (e1 (isBD k) ta))) := by
  refine (pt_cmpR (op_isB k) ha pe_bl (nomark _)).imp fun σ H Q ⟨ρ, μ, S, R, Rx, at_, h, ok, ox⟩ => ?_
  refine ⟨ρ, μ, S, _, Rx, at_, h, fun d S' v μ' H' h' e s r => ⟨rfl, (rep_nobyt r).1, (rep_nobyt r).2, _, rfl, ok _ _ _ _ (isB_fin r h') e s⟩, ox⟩

/-! ### defs by name -/
structure DefOk (P : Program) (w : World) (K : PySem.W.Frag) (mg : Str → Option Value) (base : Heap) (x : Str) (st : Stmt) (k : Nat) (ps : List Str) (n : Nat) (sp : DSp) : Prop where
  ex : ∃ fd, FnOk P w K mg base (L2.CX P w) k (He.ga K x) fd ps (dSp K n sp) ∧ FunD K x x (defArgs st) (defBody st) (defScope st) [] [] (He.ga K x) fd ∧ L2.Binds K fd ps []
  kp : PySem.W.keepIn K (.ref (He.ga K x)) = true
  gm : mg x = some (.ref (He.ga K x))
theorem de_fn {x : Str} {st : Stmt} {k : Nat} {ps : List Str} {sp : DSp} {p : Pos} (G : DefOk X.prog X.w X.K X.mg X.base x st k ps n sp) (hr : Room k X.A) (tk : Takes X W) (ha : PA X (a :: es) (dA X.K W n tr)) (hg : Gl X x := by rfl) (hdb : (x == ("__debug__" : Str)) = false := by decide)
    (he : starEach (a :: es) X.env = (false, eval a X.env) :: starEach es X.env := by rfl) (hpl : (backTo pos (starEach es X.env)).any (·.1) = false := by rfl) : PE X (.Call (.Name x p) (a :: es) [] pos) (dE X.K W (eCall sp tr)) := by
  obtain ⟨fd, F, _, hb⟩ := G.ex
  exact de_call F hr G.gm G.kp hb tk ha hg hdb he hpl
theorem de_fnK {x : Str} {st : Stmt} {k N : Nat} {ps ks : List Str} {π : List Nat} {sp : DSp} {p : Pos} {kws : List Keyword} (G : DefOk X.prog X.w X.K X.mg X.base x st k ps N sp) (hr : Room k X.A) (tks : Takes X W)
    (hb : ∀ (kV doc pm : Value) (an : Option Addr) (cdv ct : Value) (us ws : List Value), us.length = n → ws.length = ks.length → bindArgs (PySem.W.fnOf x x (defArgs st) (defBody st) (defScope st) .none kV doc pm an cdv ct) ⟨us, ks.zip ws⟩ = pure (ps.zip (pick π (us ++ ws))))
    (hN : π.length = N) (hπ : ∀ i ∈ π, i < n + ks.length) (ha : PA X (a :: es) (dA X.K W n tr)) (hkw : PK X kws (dA X.K W ks.length tk)) (hg : Gl X x := by rfl)
    (hall : (backToKw pos (keywordEach kws X.env)).all (·.1.isSome) = true := by rfl) (hks : (backToKw pos (keywordEach kws X.env)).filterMap (·.1) = ks := by rfl) (hdb : (x == ("__debug__" : Str)) = false := by decide)
    (he : starEach (a :: es) X.env = (false, eval a X.env) :: starEach es X.env := by rfl) (hpl : ((backTo pos (starEach (a :: es) X.env)).any (·.1) || (backToKw pos (keywordEach kws X.env)).any (·.1.isNone)) = false := by rfl) :
    PE X (.Call (.Name x p) (a :: es) kws pos) (dE X.K W (eCallK sp π tr tk)) := by
  obtain ⟨fd, F, D, _⟩ := G.ex
  exact de_callK F hr G.gm G.kp (kpi_of D hb) hN hπ tks ha hkw hg hall hks hdb he hpl
theorem de_fnK0 {x : Str} {st : Stmt} {k N : Nat} {ps ks : List Str} {π : List Nat} {sp : DSp} {p : Pos} {kws : List Keyword} (G : DefOk X.prog X.w X.K X.mg X.base x st k ps N sp) (hr : Room k X.A) (tks : Takes X W)
    (hb : ∀ (kV doc pm : Value) (an : Option Addr) (cdv ct : Value) (us ws : List Value), us.length = 0 → ws.length = ks.length → bindArgs (PySem.W.fnOf x x (defArgs st) (defBody st) (defScope st) .none kV doc pm an cdv ct) ⟨us, ks.zip ws⟩ = pure (ps.zip (pick π (us ++ ws))))
    (hN : π.length = N) (hπ : ∀ i ∈ π, i < ks.length) (hkw : PK X kws (dA X.K W ks.length tk)) (hg : Gl X x := by rfl)
    (hall : (backToKw pos (keywordEach kws X.env)).all (·.1.isSome) = true := by rfl) (hks : (backToKw pos (keywordEach kws X.env)).filterMap (·.1) = ks := by rfl) (hdb : (x == ("__debug__" : Str)) = false := by decide)
    (hpl : ((backTo pos (starEach [] X.env)).any (·.1) || (backToKw pos (keywordEach kws X.env)).any (·.1.isNone)) = false := by rfl) :
    PE X (.Call (.Name x p) [] kws pos) (dE X.K W (eCallK sp π aNil tk)) := by
  obtain ⟨fd, F, D, _⟩ := G.ex
  exact de_callK0 F hr G.gm G.kp (kpi_of D hb) hN hπ tks hkw hg hall hks hdb hpl
end

/-! ### what the top has written: defs, names, constants that are trees -/
/-- does the value u stand for the tree d in the written part -/
def conB (K : PySem.W.Frag) : Nat → D → Value → Bool
  | _, .non, .none => true
  | _, .bl b, .bool c => b == c
  | _, .int i, .int j _ => decide (i = j)
  | _, .str x, .str y _ => decide (x = y)
  | n + 1, .tup xs, .ref a => (match K.lookup a with
    | some ⟨.type c, _, .seq its _, _⟩ => decide (c = "tuple") && (decide (its.size ≤ sizeLine) && (decide (xs.length = its.toList.length) && (xs.zip its.toList).all fun p => conB K n p.1 p.2))
    | _ => false)
  | _, _, _ => false
theorem conB_ok {K : PySem.W.Frag} : ∀ (n : Nat) (d : D) (u : Value), conB K n d u = true → ∃ v, RelV v u ∧ ∀ H μ, Rep K H μ d v := by
  intro n
  induction n with
  | zero =>
    intro d u h
    cases d <;> cases u <;> simp only [conB] at h <;> first
      | (cases h; done)
      | exact ⟨.non, rfl, fun _ _ => .non⟩
      | (have e := eq_of_beq h; subst e; exact ⟨.bl _, rfl, fun _ _ => .bl _⟩)
      | (have e := of_decide_eq_true h; subst e; exact ⟨.int _, ⟨_, rfl⟩, fun _ _ => .int _⟩)
      | (have e := of_decide_eq_true h; subst e; exact ⟨.str _, ⟨_, rfl⟩, fun _ _ => .str _⟩)
  | succ n ih =>
    intro d u h
    cases d with
    | tup xs =>
      cases u with
      | ref a =>
        simp only [conB] at h
        split at h
        · rename_i c dd its m sl hk
          simp only [Bool.and_eq_true, decide_eq_true_eq] at h
          obtain ⟨hc, hz, hl, hall⟩ := h
          subst hc
          have go : ∀ (ds : List D) (us : List Value), ds.length = us.length → ((ds.zip us).all fun p => conB K n p.1 p.2) = true → ∃ vs, Vals vs us ∧ ∀ H μ, Reps K H μ ds vs := by
            intro ds
            induction ds with
            | nil =>
              intro us hl _
              cases us with
              | nil => exact ⟨[], .nil, fun _ _ => .nil⟩
              | cons => simp at hl
            | cons d ds ihd =>
              intro us hl hall
              cases us with
              | nil => simp at hl
              | cons u us =>
                simp only [List.zip_cons_cons, List.all_cons, Bool.and_eq_true] at hall
                obtain ⟨v, rv, hv⟩ := ih d u hall.1
                obtain ⟨vs, rvs, hvs⟩ := ihd us (by simpa using hl) hall.2
                exact ⟨v :: vs, .cons rv rvs, fun H μ => .cons (hv H μ) (hvs H μ)⟩
          obtain ⟨vs, rvs, hvs⟩ := go xs its.toList hl hall
          exact ⟨.ref a, rfl, fun H μ => .tup (.inr ⟨_, its, m, hk, rfl, rfl, hz, rvs⟩) (hvs H μ)⟩
        · cases h
      | _ => simp only [conB] at h; cases h
    | _ =>
      cases u <;> simp only [conB] at h <;> first
        | (cases h; done)
        | exact ⟨.non, rfl, fun _ _ => .non⟩
        | (have e := eq_of_beq h; subst e; exact ⟨.bl _, rfl, fun _ _ => .bl _⟩)
        | (have e := of_decide_eq_true h; subst e; exact ⟨.int _, ⟨_, rfl⟩, fun _ _ => .int _⟩)
        | (have e := of_decide_eq_true h; subst e; exact ⟨.str _, ⟨_, rfl⟩, fun _ _ => .str _⟩)
def conX (K : PySem.W.Frag) (p : Str × D) : Bool := match PySem.W.nsIn K mainGlobals p.1 with
  | some (some u) => conB K 8 p.2 u
  | _ => false
abbrev AlX : Type := Bool × He.AlD
def obsX (fa : List He.Fa) (fn : List He.DefD) (cs : List (Str × D)) (K : PySem.W.Frag) : AlX := (cs.all (conX K), He.obsD fa fn K)
def valX (fn : List He.DefD) : AlX := (true, He.valD fn)
def obsXG (n : Nat) (fa : List He.Fa) (fn : List He.DefD) (cs : List (Str × D)) (g : Addr → Option Obj) : AlX := obsX fa fn cs (He.frG g (He.asD g n))
def SaysX (fa : List He.Fa) (fn : List He.DefD) (cs : List (Str × D)) (K : PySem.W.Frag) : Prop := obsX fa fn cs K = valX fn
def hookX (n : Nat) (fa : List He.Fa) (fn : List He.DefD) (cs : List (Str × D)) : PySem.W.Hook where
  α := AlX
  obs := fun s => obsXG n fa fn cs s.heap.get?
  val := fun _ => valX fn
  says := fun _ h => ∃ K : PySem.W.Frag, K.In h ∧ SaysX fa fn cs K
  of := fun _ _ e => ⟨_, He.frG_in, e⟩
  keeps := fun _ _ _ ⟨K, hK, c⟩ k => ⟨K, PySem.W.Frag.In.keeps hK k, c⟩
theorem obsXG_eq {n : Nat} {fa : List He.Fa} {fn : List He.DefD} {cs : List (Str × D)} {g : Addr → Option Obj} {s : Shared} (h : ∀ a, g a = s.heap.get? a) : obsXG n fa fn cs g = (hookX n fa fn cs).obs s := by
  have e : g = s.heap.get? := funext h
  rw [e] <;> rfl
/-- the program's facts -/
structure Tx (fa : List He.Fa) (fn : List He.DefD) (cs : List (Str × D)) (K : PySem.W.Frag) (mg : Str → Option Value) : Prop where
  ex : ∃ h : Heap, K.In h ∧ h.Ns mainGlobals mg ∧ SaysX fa fn cs K
section
variable {fa : List He.Fa} {fn : List He.DefD} {cs : List (Str × D)} {K : PySem.W.Frag} {mg : Str → Option Value}
theorem SaysX.d (c : SaysX fa fn cs K) : He.SaysD fa fn K := congrArg (fun z : AlX => z.2) c
theorem Tx.glo (T : Tx fa fn cs K mg) (i : Nat) {x : Str} (h : fa[i]? = some (.glo x) := by rfl) : mg x = some (.ref (He.ga K x)) := let ⟨_, X, G, c⟩ := T.ex; He.glo_ok X G (c.d.fact i h)
theorem Tx.free (T : Tx fa fn cs K mg) (i : Nat) {x : Str} (h : fa[i]? = some (.free x) := by rfl) : mg x = none := let ⟨_, X, G, c⟩ := T.ex; He.free_ok X G (c.d.fact i h)
theorem Tx.con (T : Tx fa fn cs K mg) (i : Nat) {x : Str} {d : D} (h : cs[i]? = some (x, d) := by rfl) : ∃ v u, mg x = some u ∧ RelV v u ∧ ∀ H μ, Rep K H μ d v := by
  obtain ⟨_, X, G, c⟩ := T.ex
  have c1 : cs.all (conX K) = true := congrArg (fun z : AlX => z.1) c
  have c2 := List.all_eq_true.mp c1 _ (List.mem_of_getElem? h)
  unfold conX at c2
  split at c2
  · rename_i u hu
    obtain ⟨v, r, hr⟩ := conB_ok 8 d u c2
    exact ⟨v, u, PySem.W.mg_of X G hu, r, hr⟩
  · cases c2
/-- a def of the text by its body's reading -/
theorem Tx.defD {P : Program} {w : World} {base : Heap} (T : Tx fa fn cs K mg) {x : Str} {st : Stmt} {k n m : Nat} {N ps : List Str} {t : TDS} (gm : mg x = some (.ref (He.ga K x))) (i : Nat) (hi : fn[i]? = some ⟨(x, none), x, x, defArgs st, defBody st, defScope st, [], []⟩)
    (sc : FnScope N ps (defScope st)) (hn : ps.length = n) (hm : N.length = m)
    (hbind : ∀ (kV doc pm : Value) (an : Option Addr) (cdv ct : Value) (us : List Value), us.length = ps.length → bindArgs (PySem.W.fnOf x x (defArgs st) (defBody st) (defScope st) .none kV doc pm an cdv ct) ⟨us, []⟩ = pure (ps.zip us))
    (hb : ∀ (cdv : Value) (A : Around) (outer : List Env) (s : Shared) (H : Hp) (E : XK), Room k (A.deeper (envOfC x (defScope st) s.heap.objs.size (He.ga K x) cdv)) →
      PSs (cxOf (L2.CX P w) P w K mg base N x (defScope st) (He.ga K x) cdv A outer s H E) (defBody st) (dS K (fun cls d _ H' => E cls d H') t)) : DefOk P w K mg base x st (k + 1) ps n (wOf m t) := by
  obtain ⟨_, X, G, c⟩ := T.ex
  obtain ⟨fd, F⟩ := c.d.def_ i hi
  have F' : FunD K x x (defArgs st) (defBody st) (defScope st) [] [] (He.ga K x) fd := F
  exact ⟨⟨fd, FunD.okD F' sc hn hm hb, F', F'.bindsN hbind⟩, F'.kp, gm⟩
theorem Tx.lawD {P : Program} {w : World} {base : Heap} {x : Str} {st : Stmt} {k : Nat} {ps : List Str} {n : Nat} {sp : DSp} (G : DefOk P w K mg base x st k ps n sp) {fd : FuncData} (F : FunD K x x (defArgs st) (defBody st) (defScope st) [] [] (He.ga K x) fd) :
    FnOk P w K mg base (L2.CX P w) k (He.ga K x) fd ps (dSp K n sp) := by
  obtain ⟨fd', F', D', _⟩ := G.ex
  obtain ⟨_, _, _, _, _, _, _, _, _, _, _, l1, _⟩ := F.ex
  obtain ⟨_, _, _, _, _, _, _, _, _, _, _, l2, _⟩ := D'.ex
  rw [l1] at l2
  cases l2
  exact F'
end
section
variable {X : Cx} {W : WX} {pos : Pos}
theorem de_con {x : Str} {d : D} (h : ∃ v u, X.mg x = some u ∧ RelV v u ∧ ∀ H μ, Rep X.K H μ d v) (hg : Gl X x := by rfl) (hd : (x == ("__debug__" : Str)) = false := by decide) : PE X (.Name x pos) (dE X.K W (eC d)) := by
  obtain ⟨v, u, hm, r, hr⟩ := h
  exact de_glob hm r hr hg hd
end
section
variable {P : Program} {w : World} {K : PySem.W.Frag} {mg : Str → Option Value} {base : Heap} {N : List Str} {q : Str} {sc : Scope} {f : Addr} {cd : Value} {A : Around} {outer : List Env} {s : Shared} {H : Hp} {E : XK}
theorem tkF : Takes (cxOf (L2.CX P w) P w K mg base N q sc f cd A outer s H E) (fun cls d _ H' => E cls d H') := takes_of rfl rfl rfl rfl
theorem poF : PassesOwn (model P w) (cxOf (L2.CX P w) P w K mg base N q sc f cd A outer s H E).A (cxOf (L2.CX P w) P w K mg base N q sc f cd A outer s H E).env (cxOf (L2.CX P w) P w K mg base N q sc f cd A outer s H E).xe := passes_of rfl
end
/-- the law's end -/
theorem walk_D {l : PySem.W.OpenLaw} {n k : Nat} {q : Program} {loose : List Str} {XP : (Str → Option Value) → Heap → Prop} {YP : World → Heap → Prop} {d : DefRec} {x : Str} (hn : l.most = some n) (hn2 : n ≤ sizeLine) (hdf : d.params.defaults = []) (hr : Room k callerA)
    (F : ∀ (w : World) (mg : Str → Option Value) (fa : Addr) (h : Heap), YP w h → h.Ns mainGlobals mg → mg d.name = some (.ref fa) → ∃ (K : PySem.W.Frag) (fd : FuncData) (sp : Sp), K.In h ∧ (∀ (s : Shared) (u : Value), BindsTo s fd ⟨[u], []⟩ [(x, u)]) ∧
      (∀ (H : Hp) (a : Addr) (ns : List Int), ns.length ≤ n → Only H → SqL K H a (ns.map V.int) → sp [.ref a] H (fun v _ => v = .bl true) fun _ _ _ => False) ∧ ∀ base : Heap, K.In base → base.Ns mainGlobals mg → FnOk l.prog w K mg base (L2.CX l.prog w) k fa fd [x] sp) :
    PySem.W.WalkO q loose XP YP l.row.toRowW d [] (fun f vs => PySem.call f vs) := by
  refine Att.attach_call hn hdf fun w s₀ s₁ mg mb fa o pm cd doc a vs ns G Y _ _ _ hmg hobj hints hlen hg => ?_
  obtain ⟨K, fd, sp, KX, hb, hsp, hF⟩ := F w mg fa _ Y G.T.g hmg
  refine law_call KX G.T.g G.T.b G.T.builtins G.T.nolimit hg hobj hints (Nat.le_trans hlen hn2) hr hF hb (fun H hO hS => hsp H a ns hlen hO hS) fun H e s' z => ?_
  obtain ⟨_, _, _, _, _, _, _, _, _, _, _, _, z⟩ := z
  exact z.elim
end DL
namespace DL
open PySem PySem.Spec PyProof.Rows L2

/-! ### plain words: what a piece of a run leaves of the store -/
/-- all that stood ahead stands as it did, but at the places W -/
structure Frm (W : List Nat) (S S' : Sto) : Prop where
  len : S.length ≤ S'.length
  at_ : ∀ i, i < S.length → i ∉ W → S'[i]? = S[i]?
section
variable {W : List Nat} {S S' S'' : Sto} {i : Nat} {o : Ob}
theorem Frm.refl : Frm W S S := ⟨Nat.le_refl _, fun _ _ _ => rfl⟩
theorem Frm.trans (a : Frm W S S') (b : Frm W S' S'') : Frm W S S'' := ⟨Nat.le_trans a.len b.len, fun i h n => (b.at_ i (Nat.lt_of_lt_of_le h a.len) n).trans (a.at_ i h n)⟩
theorem Frm.mono {W' : List Nat} (a : Frm W S S') (h : ∀ i ∈ W, i ∈ W') : Frm W' S S' := ⟨a.len, fun i hl n => a.at_ i hl fun z => n (h i z)⟩
theorem Frm.nil (a : Frm [] S S') : Frm W S S' := a.mono fun _ h => by cases h
theorem Frm.app (T : Sto) : Frm W S (S ++ T) := ⟨by simp, fun i h _ => List.getElem?_append_left h⟩
theorem Frm.set (h : i ∈ W) : Frm W S (S.set i o) := ⟨by simp, fun j _ n => List.getElem?_set_ne (fun e : i = j => n (by rw [← e]; exact h))⟩
/-- a later object is written -/
theorem Frm.setNew (a : Frm W S S') (h : S.length ≤ i) : Frm W S (S'.set i o) := ⟨by simpa using a.len, fun j hj n => by rw [List.getElem?_set_ne (by omega)]; exact a.at_ j hj n⟩
theorem Frm.get (a : Frm W S S') (h : S[i]? = some o) (n : i ∉ W) : S'[i]? = some o := (a.at_ i (List.getElem?_eq_some_iff.mp h).1 n).trans h
theorem Frm.get0 (a : Frm [] S S') (h : S[i]? = some o) : S'[i]? = some o := a.get h (by simp)
theorem lt_of_get {α : Type} {l : List α} {i : Nat} {x : α} (h : l[i]? = some x) : i < l.length := (List.getElem?_eq_some_iff.mp h).1
theorem get_last {α : Type} {l : List α} {x : α} : (l ++ [x])[l.length]? = some x := by simp
end
theorem iteb {c : Bool} {A B : Prop} (h1 : c = true → A) (h2 : c = false → B) : if c = true then A else B := by
  cases c
  · exact h2 rfl
  · exact h1 rfl
theorem itet {c : Bool} {A B : Prop} (h : c = true) (a : A) : if c = true then A else B := by rw [if_pos h]; exact a
theorem itef {c : Bool} {A B : Prop} (h : c = false) (b : B) : if c = true then A else B := by rw [if_neg (by simp [h])]; exact b
theorem sz {n : Nat} (h : n ≤ 1000) : n ≤ sizeLine := Nat.le_of_lt (small1000 h)
theorem log2_lt {a : Int} {n k : Nat} (h : a.natAbs < 2 ^ n) (h0 : 0 < n) (hk : n ≤ k) : a.natAbs.log2 < k := Nat.lt_of_lt_of_le (PySem.Flt.log2_lt_of h0 h) hk
/-- a product's room -/
theorem room {a b : Int} {n m : Nat} (ha : a.natAbs < 2 ^ n) (hb : b.natAbs < 2 ^ m) (hn : 0 < n) (hm : 0 < m) (h : n + m ≤ 1000000) : a.natAbs.log2 + b.natAbs.log2 < 1000000 := by
  have h1 := PySem.Flt.log2_lt_of hn ha
  have h2 := PySem.Flt.log2_lt_of hm hb
  omega
/-- as many steps as one says, one less each turn -/
theorem gcd_step (a b : Int) : Int.gcd b (a % b) = Int.gcd a b := by
  have h : a = a % b + (a / b) * b := by
    have := Int.emod_add_mul_ediv a b
    rw [Int.mul_comm] at this
    exact this.symm
  have h2 := Int.gcd_add_mul_right_right b (a % b) (a / b)
  rw [← h] at h2
  rw [Int.gcd_comm a b, h2]
theorem pop_snoc {ys : List D} {z : D} {k : D → Prop} (h : k z) : popK (ys ++ [z]) k := by
  unfold popK
  have e : (ys ++ [z])[(ys ++ [z]).length - 1]? = some z := by simp
  rw [e]
  exact h
theorem snoc_of {α : Type} {l : List α} (h : l ≠ []) : ∃ r z, l = r ++ [z] := ⟨l.dropLast, l.getLast h, (List.dropLast_concat_getLast h).symm⟩
end DL
namespace DL
open PySem PySem.Spec PyProof.Rows L2

/-! ### plain values and their weight -/
mutual
def wt : D → Nat
  | .tup xs => wts xs + 1
  | _ => 1
def wts : List D → Nat
  | [] => 0
  | x :: r => wt x + wts r
end
mutual
def Pl : D → Prop
  | .tup xs => Pls xs
  | .ref _ => False
  | _ => True
def Pls : List D → Prop
  | [] => True
  | x :: r => Pl x ∧ Pls r
end
theorem wt_pos : ∀ d : D, 0 < wt d
  | .tup xs => by rw [wt]; omega
  | .non => by rw [wt]; omega; intro _ h; cases h
  | .bl _ => by rw [wt]; omega; intro _ h; cases h
  | .int _ => by rw [wt]; omega; intro _ h; cases h
  | .str _ => by rw [wt]; omega; intro _ h; cases h
  | .ref _ => by rw [wt]; omega; intro _ h; cases h
theorem pl_tup {xs : List D} : Pl (.tup xs) ↔ Pls xs := by rw [Pl]
theorem pl_ref {n : Nat} : ¬ Pl (.ref n) := by rw [Pl]; exact id
theorem pls_one {d : D} : Pls [d] ↔ Pl d := by rw [Pls, Pls]; simp
theorem pls_nil : Pls [] := by rw [Pls]; trivial
theorem pls_cons {d : D} {r : List D} : Pls (d :: r) ↔ Pl d ∧ Pls r := by rw [Pls]
theorem pl_int {i : Int} : Pl (.int i) := by rw [Pl]; trivial; all_goals (intro _ h; cases h)
theorem pl_bl {i : Bool} : Pl (.bl i) := by rw [Pl]; trivial; all_goals (intro _ h; cases h)
theorem pl_str {i : Str} : Pl (.str i) := by rw [Pl]; trivial; all_goals (intro _ h; cases h)
theorem pl_non : Pl .non := by rw [Pl]; trivial; all_goals (intro _ h; cases h)
theorem wt_one {d : D} : wts [d] = wt d := by rw [wts, wts]; rfl
theorem wts_app (a b : List D) : wts (a ++ b) = wts a + wts b := by
  induction a with
  | nil => simp [wts]
  | cons x r ih => simp only [List.cons_append, wts, ih]; omega
theorem wts_len (a : List D) : a.length ≤ wts a := by
  induction a with
  | nil => simp
  | cons x r ih =>
    have := wt_pos x
    simp only [List.length_cons, wts]
    omega
theorem pls_app {a b : List D} : Pls (a ++ b) ↔ Pls a ∧ Pls b := by
  induction a with
  | nil => simp [Pls]
  | cons x r ih => simp only [List.cons_append, Pls, ih, and_assoc]
theorem pls_take {a : List D} {n : Nat} (h : Pls a) : Pls (a.take n) := by
  induction a generalizing n with
  | nil => simp [Pls]
  | cons x r ih =>
    cases n with
    | zero => simp [Pls]
    | succ n => simp only [List.take_succ_cons, Pls]; exact ⟨h.1, ih h.2⟩
/-- a pair told alike twice -/
abbrev pr (d : D) : D := .tup [d, d]
/-- of what is told and what is due: both one plain value, not too wide -/
def Good (x : D) : Prop := ∃ d, x = pr d ∧ Pl d ∧ wt d ≤ 100000

/-! ### pure readings: nothing is written, lists may be made -/
def EvV (ρ : Ev) (t : TD) (d : D) : Prop := ∀ (S : Sto) (Rx : RX) (R : RD), (∀ S', Frm [] S S' → R d S') → t Rx ρ S R
def EvG (ρ : Ev) (t : TD) : Prop := ∀ (S : Sto) (Rx : RX) (R : RD), (∀ d S', Frm [] S S' → Good d → R d S') → t Rx ρ S R
def EvL (ρ : Ev) (n : Nat) (t : TDA) : Prop := ∀ (S : Sto) (Rx : RX) (R : List D → Sto → Prop), (∀ xs S', Frm [] S S' → (∀ x ∈ xs, Good x) → xs.length = n → R xs S') → t Rx ρ S R
section
variable {ρ : Ev} {n : Nat} {a b : TD} {r : TDA} {d : D}
theorem EvL.nil : EvL ρ 0 aNil := fun S Rx R k => k [] S .refl (by simp) rfl
theorem EvL.cons (h1 : EvG ρ a) (h2 : EvL ρ n r) : EvL ρ (n + 1) (aCons a r) := fun S Rx R k =>
  h1 S Rx _ fun d S1 f1 g => h2 S1 Rx _ fun xs S2 f2 g2 hl => k (d :: xs) S2 (f1.trans f2) (fun x hx => by
    rcases List.mem_cons.mp hx with rfl | hx
    · exact g
    · exact g2 x hx) (by simp [hl])
theorem EvV.pair (h1 : EvV ρ a d) (h2 : EvV ρ b d) (hp : Pl d) (hw : wt d ≤ 100000) : EvG ρ (eTup (aCons a (aCons b aNil))) := fun S Rx R k =>
  h1 S Rx _ fun S1 f1 => h2 S1 Rx _ fun S2 f2 => ⟨sz (show 2 ≤ 1000 by decide), k _ _ (f1.trans f2) ⟨d, rfl, hp, hw⟩⟩
theorem EvV.c : EvV ρ (eC d) d := fun S Rx R k => k S .refl
theorem EvV.bl {b' : Bool} (h1 : EvV ρ a (.bl b')) : EvG ρ (eTup (aCons a (aCons (eC (.bl b')) aNil))) := EvV.pair h1 .c pl_bl (by rw [wt]; decide; intro _ h; cases h)
end
theorem aCons_step {Rx : RX} {ρ : Ev} {S : Sto} {ta : TD} {tr : TDA} {R : List D → Sto → Prop} (h : ta Rx ρ S fun x S1 => tr Rx ρ S1 fun xs S2 => R (x :: xs) S2) : aCons ta tr Rx ρ S R := h
/-- the pairs told so far -/
structure Prs (W : List Nat) (p : Nat) (c : Nat) (S : Sto) : Prop where
  nW : p ∉ W
  ex : ∃ ps, S[p]? = some (.lst ps) ∧ (∀ x ∈ ps, Good x) ∧ ps.length ≤ c
theorem Prs.frm {W : List Nat} {p c : Nat} {S S' : Sto} (h : Prs W p c S) (f : Frm W S S') : Prs W p c S' := by
  obtain ⟨n, ps, h1, h2, h3⟩ := h
  exact ⟨n, ps, f.get h1 n, h2, h3⟩
theorem Prs.mono {W : List Nat} {p c c' : Nat} {S : Sto} (h : Prs W p c S) (l : c ≤ c') : Prs W p c' S := by
  obtain ⟨n, ps, h1, h2, h3⟩ := h
  exact ⟨n, ps, h1, h2, Nat.le_trans h3 l⟩
/-- pairs = pairs + [...] -/
theorem add_prs {W : List Nat} {p c n : Nat} {S : Sto} {ρ : Ev} {t : TDA} {Rx : RX} {R : RD} (hp : Prs W p c S) (hW : ∀ i ∈ W, i < S.length) (hv : ρ[2]? = some (some (.ref p))) (ht : EvL ρ n t) (hc : c + n ≤ 100000)
    (k : ∀ p' S', Frm [] S S' → Prs W p' (c + n) S' → S.length ≤ p' → R (.ref p') S') : e2 addD (eVar 2) (eLst t) Rx ρ S R := by
  obtain ⟨nW, ps, h1, h2, h3⟩ := hp
  show eVar 2 Rx ρ S fun x S1 => eLst t Rx ρ S1 fun y S2 => addD x y S2 R
  unfold eVar
  rw [hv]
  refine ht S Rx _ fun xs S1 f1 g hl => ?_
  have e1 : (S1 ++ [Ob.lst xs])[p]? = some (.lst ps) := (f1.trans (Frm.app _)).get0 h1
  have e2 : (S1 ++ [Ob.lst xs])[S1.length]? = some (.lst xs) := get_last
  have hs : 100000 < sizeLine := by decide
  refine ⟨by omega, mlst_at e1 (mlst_at e2 ⟨by omega, ?_⟩)⟩
  refine k _ _ (f1.trans ((Frm.app _).trans (Frm.app _))) ⟨fun h => ?_, ps ++ xs, get_last, fun x hx => ?_, by simp; omega⟩ ?_
  · have := hW _ h
    have := f1.len
    simp at *
    omega
  · rcases List.mem_append.mp hx with h | h
    · exact h2 x h
    · exact g x h
  · have := f1.len
    simp
    omega
end DL
namespace DL
open PySem PySem.Spec PyProof.Rows L2

/-! ### zip and enumerate over lists, tuples and texts in any mix -/
inductive SK where
  | l (a : Addr)
  | t (a : Addr)
  | s (z : Str) (k : Tok)
namespace SK
def it (q : Addr) : SK → Nat → Heap → Prop
  | .l a, i, h => h.IsListIter q a i
  | .t a, i, h => h.IsTupleIter q a i
  | .s z k, i, h => h.IsStrIter q (strIterType z) z k i
def fp (q : Addr) : SK → List Addr
  | .l a => [q, a]
  | .t a => [q, a]
  | .s _ _ => [q]
def has (K : PySem.W.Frag) (i : Nat) (x : V) (H : Hp) : SK → Prop
  | .l a => ∃ xs, SqL K H a xs ∧ xs[i]? = some x
  | .t a => ∃ xs, SqT K H a xs ∧ xs[i]? = some x
  | .s z _ => ∃ c, z.cps[i]? = some c ∧ x = .str ⟨#[c]⟩
def fin (K : PySem.W.Frag) (i : Nat) (H : Hp) : SK → Prop
  | .l a => ∃ xs, SqL K H a xs ∧ xs.length = i
  | .t a => ∃ xs, SqT K H a xs ∧ xs.length = i
  | .s z _ => z.cps.size = i
def yl (K : PySem.W.Frag) (i : Nat) (x : V) (H : Hp) : SK → Prop
  | .l a => ∀ xs, SqL K H a xs → xs[i]? = some x
  | .t a => ∀ xs, SqT K H a xs → xs[i]? = some x
  | .s z _ => ∃ c, z.cps[i]? = some c ∧ x = .str ⟨#[c]⟩
/-- the source stands in the heap -/
def on (h : Heap) : SK → Prop
  | .l a => ∃ its, h.IsList a its
  | .t a => ∃ its, h.IsTuple a its
  | .s _ _ => True
/-- the size at which the walk ends, or goes past -/
theorem draw {X : Cx} {pins : List (Addr × Obj)} {σ : L2.St} {H : Hp} {s : Shared} {q : Addr} {i : Nat} (I : Inv X pins σ H s) (hc : X.calm = true) (k : SK) (st : k.it q i s.heap) (hh : (∃ x, k.has X.K i x H) ∨ k.fin X.K i H) :
    ∃ (n : Nat) (P : Nat → Value → Prop) (St : Nat → Heap → Prop), Draws X.prog X.w X.A.in1 q (k.fp q) n P St ∧ St i s.heap ∧ (∀ x, k.has X.K i x H → i < n ∧ k.yl X.K i x H ∧ ∀ u, P i u → RelV x u) ∧ (k.fin X.K i H → n = i) ∧ ∀ j h, St j h → k.it q j h := by
  have hd : X.A.in1.handled = none := I.ok.hd hc
  cases k with
  | l a =>
    have hq : ∃ xs, SqL X.K H a xs := by
      rcases hh with ⟨x, xs, h, _⟩ | ⟨xs, h, _⟩ <;> exact ⟨xs, h⟩
    obtain ⟨xs, hq⟩ := hq
    obtain ⟨its, rv, p, _⟩ := I.list hq
    have hl := rv.length
    have st' : s.heap.IsListIter q a i := st
    have hne : a ≠ q := by
      rintro rfl
      obtain ⟨o, h1, h2, _⟩ := st'
      obtain ⟨o', h1', h2', _⟩ := p.isList
      rw [h1] at h1'
      cases h1'
      rw [h2] at h2'
      simp at h2'
    refine ⟨_, _, _, Draws.list hd q a hne its.toArray, ⟨st', p.isList⟩, ?_, ?_, fun j h z => z.1⟩
    · rintro x ⟨ys, hy, hx⟩
      cases I.list_inj hy hq
      obtain ⟨u, hu, ru⟩ := rv.get hx
      have hi := lt_of_get hx
      refine ⟨by simpa [hl] using hi, fun zs hz => by rw [I.list_inj hz hq]; exact hx, fun u' hu' => ?_⟩
      have : its.toArray[i]? = some u := by simpa using hu
      rw [this] at hu'
      cases hu'
      exact ru
    · rintro ⟨ys, hy, hx⟩
      cases I.list_inj hy hq
      simpa [hl] using hx
  | t a =>
    have hq : ∃ xs, SqT X.K H a xs := by
      rcases hh with ⟨x, xs, h, _⟩ | ⟨xs, h, _⟩ <;> exact ⟨xs, h⟩
    obtain ⟨xs, hq⟩ := hq
    obtain ⟨its, rv, p, _⟩ := I.tuple hq
    have hl := rv.length
    have st' : s.heap.IsTupleIter q a i := st
    have p' : s.heap.IsTuple a its.toArray := p
    have hne : a ≠ q := by
      rintro rfl
      obtain ⟨o, h1, h2, _⟩ := st'
      obtain ⟨o', h1', h2', _⟩ := p'
      rw [h1] at h1'
      cases h1'
      rw [h2] at h2'
      simp at h2'
    refine ⟨_, _, _, Draws.tuple hd q a hne its.toArray, ⟨st', p'⟩, ?_, ?_, fun j h z => z.1⟩
    · rintro x ⟨ys, hy, hx⟩
      cases I.tuple_inj hy hq
      obtain ⟨u, hu, ru⟩ := rv.get hx
      have hi := lt_of_get hx
      refine ⟨by simpa [hl] using hi, fun zs hz => by rw [I.tuple_inj hz hq]; exact hx, fun u' hu' => ?_⟩
      have : its.toArray[i]? = some u := by simpa using hu
      rw [this] at hu'
      cases hu'
      exact ru
    · rintro ⟨ys, hy, hx⟩
      cases I.tuple_inj hy hq
      simpa [hl] using hx
  | s z t =>
    refine ⟨_, _, _, Draws.text hd q z t, st, ?_, fun h => h, fun j h z => z⟩
    rintro x ⟨c, hx, rfl⟩
    have hi : i < z.cps.size := (Array.getElem?_eq_some_iff.mp hx).1
    refine ⟨hi, ⟨c, hx, rfl⟩, fun u hu => ?_⟩
    obtain ⟨c', t', h1, rfl⟩ := hu
    rw [hx] at h1
    cases h1
    exact ⟨t', rfl⟩
end SK
/-- what zip tells at each turn -/
def ItS (K : PySem.W.Frag) (k1 k2 : SK) : It :=
  ⟨fun i H => (∃ x, k1.has K i x H) ∧ ∃ y, k2.has K i y H,
    fun i H v H' => ∃ T x y, v = .ref T ∧ H T = none ∧ H' = upd H T (.tup [x, y]) ∧ k1.yl K i x H ∧ k2.yl K i y H,
    fun i H => ((∃ x, k1.has K i x H) ∨ k1.fin K i H) ∧ ((∃ y, k2.has K i y H) ∨ k2.fin K i H) ∧ (k1.fin K i H ∨ k2.fin K i H)⟩
theorem turn_S {P : Program} {w : World} {K : PySem.W.Frag} {elts : List Expr} {kk : Nat} {tpos : Pos} {k1 k2 : SK} {z TI TO i1 i2 : Addr} (D : ZipSep2 z TI TO i1 i2 (k1.fp i1) (k2.fp i2)) :
    Turn P w K (.Tuple elts kk tpos) (ItS K k1 k2) [z, TI, TO, i1, i2] z (fun i h => IsZip h z TI TO .none ∧ IsTupOf2 h TI (.ref i1) (.ref i2) ∧ (∃ x y, IsTupOf2 h TO x y) ∧ k1.it i1 i h ∧ k2.it i2 i h) where
  mem := by simp
  obj := fun i h st c hc => by
    obtain ⟨hz, hTI, ⟨x, y, hTO⟩, h1, h2⟩ := st
    have go : ∀ (k : SK) (q : Addr), k.it q i h → ∃ o, h.get? q = some o ∧ ∀ v, o.data ≠ .cell v := fun k q hq => by
      cases k with
      | l a => obtain ⟨o, e, _, d⟩ := hq; exact ⟨o, e, fun v z => by rw [d] at z; cases z⟩
      | t a => obtain ⟨o, e, _, d⟩ := hq; exact ⟨o, e, fun v z => by rw [d] at z; cases z⟩
      | s a t => obtain ⟨o, e, _, d⟩ := hq; exact ⟨o, e, fun v z => by rw [d] at z; cases z⟩
    simp only [List.mem_cons, List.not_mem_nil, or_false] at hc
    rcases hc with rfl | rfl | rfl | rfl | rfl
    · exact ⟨_, hz, fun v q => nomatch q⟩
    · exact ⟨_, hTI, fun v q => nomatch q⟩
    · exact ⟨_, hTO, fun v q => nomatch q⟩
    · exact go _ _ h1
    · exact go _ _ h2
  keep := fun i h h' st k => by
    obtain ⟨hz, hTI, ⟨x, y, hTO⟩, h1, h2⟩ := st
    have go : ∀ (j : SK) (q : Addr), (∀ o, h.get? q = some o → h'.get? q = some o) → j.it q i h → j.it q i h' := fun j q hk hq => by
      cases j with
      | l a => obtain ⟨o, e, r⟩ := hq; exact ⟨o, hk o e, r⟩
      | t a => obtain ⟨o, e, r⟩ := hq; exact ⟨o, hk o e, r⟩
      | s a t => obtain ⟨o, e, r⟩ := hq; exact ⟨o, hk o e, r⟩
    exact ⟨k z (by simp) _ hz, k TI (by simp) _ hTI, ⟨x, y, k TO (by simp) _ hTO⟩, go _ _ (k i1 (by simp)) h1, go _ _ (k i2 (by simp)) h2⟩
  item := by
    intro X hP hw hK hc i pins s σ H E I hf st hg
    subst hP hw hK
    obtain ⟨hz, hTI, hTO, h1, h2⟩ := st
    obtain ⟨⟨x, g1⟩, y, g2⟩ := hg
    obtain ⟨n1, P1, St1, D1, s1, a1, _, b1⟩ := k1.draw I hc h1 (.inl ⟨x, g1⟩)
    obtain ⟨n2, P2, St2, D2, s2, a2, _, b2⟩ := k2.draw I hc h2 (.inl ⟨y, g2⟩)
    obtain ⟨l1, y1, r1⟩ := a1 x g1
    obtain ⟨l2, y2, r2⟩ := a2 y g2
    have W := WalksT.zipD2 D D1 D2
    refine W.item i s _ _ (Nat.lt_min.mpr ⟨l1, l2⟩) ⟨hz, hTI, hTO, s1, s2⟩ fun T vals h' tk hP hle hT hM hk => ⟨_, rfl, ?_⟩
    refine W.go elts kk tpos i T _ _ _ hM fun h'' hS hk2 => ?_
    obtain ⟨u, u2, p1, p2, rfl⟩ := hP
    obtain ⟨o, ho, hoc, no, hod⟩ := hT
    have hT2 : h''.get? T = some o := hk2 T o (W.apart i T h' hM) ho
    have new : ObjOk X.prog X.w (upd H T (.tup [x, y])) h'' T (.tup [x, y]) :=
      ⟨by show 2 ≤ sizeLine; decide, [u, u2], .cons (r1 u p1) (.cons (r2 u2 p2) .nil), ⟨o, hT2, hoc, no, hod⟩⟩
    have nw : ∀ c, c ∉ [z, TI, TO, i1, i2] → c ∉ [z, TO, i1, i2] := fun c h h' => h (by
      simp only [List.mem_cons, List.not_mem_nil, or_false] at h' ⊢
      rcases h' with h' | h' | h' | h' <;> simp [h'])
    have I1 : Inv X pins σ (upd H T (.tup [x, y])) { s with heap := h'', toks := tk } :=
      I.turnedNew (t' := tk) (ch := [z, TI, TO, i1, i2]) (fun c o hb q => hk2 c o (nw c hb) (hk c o (nw c hb) q)) hf hle new
    obtain ⟨hz3, hTI3, hTO3, s13, s23⟩ := hS
    refine ⟨.ref T, _, I1, rfl, ⟨T, x, y, rfl, I.hok.fresh hle, rfl, y1, y2⟩, ⟨hz3, hTI3, hTO3, b1 _ _ s13, b2 _ _ s23⟩, fun c hcm => ?_⟩
    have hlt : ∃ o, s.heap.get? c = some o := by
      simp only [List.mem_cons, List.not_mem_nil, or_false] at hcm
      obtain ⟨a', b', hTO'⟩ := hTO
      rcases hcm with rfl | rfl | rfl | rfl | rfl
      · exact ⟨_, hz⟩
      · exact ⟨_, hTI⟩
      · exact ⟨_, hTO'⟩
      · exact D1.live _ _ s1
      · exact D2.live _ _ s2
    obtain ⟨o', ho'⟩ := hlt
    rw [upd_ne (Nat.ne_of_lt (Nat.lt_of_lt_of_le (Heap.lt_size ho') hle))]
    exact (hf c hcm).1
  done := by
    intro X hP hw hK hc i pins s σ H E I hf st hg
    subst hP hw hK
    obtain ⟨hz, hTI, hTO, h1, h2⟩ := st
    obtain ⟨g1, g2, ge⟩ := hg
    obtain ⟨n1, P1, St1, D1, s1, a1, c1, b1⟩ := k1.draw I hc h1 g1
    obtain ⟨n2, P2, St2, D2, s2, a2, c2, b2⟩ := k2.draw I hc h2 g2
    have W := WalksT.zipD2 D D1 D2
    have e1 : i ≤ n1 := by
      rcases g1 with ⟨x, h⟩ | h
      · exact Nat.le_of_lt (a1 x h).1
      · exact Nat.le_of_eq (c1 h).symm
    have e2 : i ≤ n2 := by
      rcases g2 with ⟨x, h⟩ | h
      · exact Nat.le_of_lt (a2 x h).1
      · exact Nat.le_of_eq (c2 h).symm
    have em : min n1 n2 = i := by
      rcases ge with h | h
      · rw [c1 h]
        exact Nat.min_eq_left e2
      · rw [c2 h]
        exact Nat.min_eq_right e1
    have nw : ∀ c, c ∉ [z, TI, TO, i1, i2] → c ∉ [z, TO, i1, i2] := fun c h h' => h (by
      simp only [List.mem_cons, List.not_mem_nil, or_false] at h' ⊢
      rcases h' with h' | h' | h' | h' <;> simp [h'])
    exact W.done s _ _ (by rw [em]; exact ⟨hz, hTI, hTO, s1, s2⟩) fun h' tk hk => ⟨rfl, I.turnedL (t' := tk) (ch := [z, TI, TO, i1, i2]) (fun c o hb q => hk c o (nw c hb) q) hf⟩
  self := fun A i s Q E st h => wpAny_pyIter_zip st.1 h
/-- a value that is walked, and as what (the text's token is the run's own) -/
inductive Src (K : PySem.W.Frag) (H : Hp) : V → (Tok → SK) → Prop
  | l {a : Addr} {xs : List V} (h : SqL K H a xs) : Src K H (.ref a) fun _ => .l a
  | t {a : Addr} {xs : List V} (h : SqT K H a xs) : Src K H (.ref a) fun _ => .t a
  | s (z : Str) : Src K H (.str z) fun t => .s z t
def SK.rest : SK → List Addr
  | .l a => [a]
  | .t a => [a]
  | .s _ _ => []
theorem SK.fp_eq (k : SK) (q : Addr) : k.fp q = q :: k.rest := by cases k <;> rfl
/-- how its walk begins -/
theorem Src.begins {X : Cx} {pins : List (Addr × Obj)} {σ : L2.St} {H : Hp} {s : Shared} {v : V} {u : Value} {f : Tok → SK} (h : Src X.K H v f) (I : Inv X pins σ H s) (r : RelV v u) :
    ∃ (t : Tok) (o : Obj) (P : Heap → Prop), Begins u o P ∧ P s.heap ∧ (∀ (h' : Heap) (q : Addr), h'.get? q = some o → (f t).it q 0 h') ∧ ∀ b ∈ (f t).rest, b < s.heap.objs.size := by
  cases h with
  | l hq =>
    obtain ⟨its, rv, p, _⟩ := I.list hq
    cases r
    refine ⟨0, _, _, begins_list _ its.toArray, p.isList, fun h' q e => ⟨_, e, rfl, rfl⟩, fun b hb => ?_⟩
    rw [List.mem_singleton.mp hb]
    exact p.lt
  | t hq =>
    obtain ⟨its, rv, p, _⟩ := I.tuple hq
    cases r
    refine ⟨0, _, _, begins_tuple _ its.toArray, p, fun h' q e => ⟨_, e, rfl, rfl⟩, fun b hb => ?_⟩
    rw [List.mem_singleton.mp hb]
    obtain ⟨o, ho, _⟩ := id p
    exact Heap.lt_size ho
  | s z =>
    obtain ⟨t, rfl⟩ := r
    exact ⟨t, _, _, begins_text z t, trivial, fun h' q e => ⟨_, e, rfl, rfl⟩, fun b hb => by cases hb⟩
def iZipS (K : PySem.W.Frag) (ta : TA) : TI := fun σ H R => ta σ H fun vs H1 => ∃ v1 v2 f1 f2, vs = [v1, v2] ∧ Src K H1 v1 f1 ∧ Src K H1 v2 f2 ∧ ∀ t1 t2, R (ItS K (f1 t1) (f2 t2)) H1
theorem pi_zipS {X : Cx} {e e2 : Expr} {ta : TA} {p pos tpos : Pos} {elts : List Expr} {kk : Nat} (hg : Gl X "zip") (hm : X.mg "zip" = none) (ha : PA X [e, e2] ta)
    (hs : starEach [e, e2] X.env = (false, eval e X.env) :: starEach [e2] X.env := by rfl) (hpl : (backTo pos (starEach [e2] X.env)).any (·.1) = false := by rfl) :
    PI X (.Tuple elts kk tpos) (.Call (.Name "zip" p) [e, e2] [] pos) (iZipS X.K ta) := by
  refine ⟨fun pins s σ H R I h => ?_⟩
  refine Call_ (ld_blt I hg hm PyProof.Rows.boot_zip (PyProof.Rows.callWith_type1 (thn (ha.run pos pins s σ H _ I h) fun us s1 ⟨vs, H1, I1, r1, q1⟩ => ?_) hs hpl))
  obtain ⟨v1, v2, f1, f2, ex, h1, h2, q1⟩ := q1
  subst ex
  cases r1 with
  | cons r rr =>
    cases rr with
    | cons r' rr =>
      cases rr
      obtain ⟨t1, o1, P1, B1, b1, i1, l1⟩ := h1.begins I1 r
      obtain ⟨t2, o2, P2, B2, b2, i2, l2⟩ := h2.begins I1 r'
      refine zip_begins2 B1 B2 b1 b2 fun h' hz hTI hTO g1 g2 hsz hk => wpAny_pyIter_zip hz ?_
      have I2 : Inv X pins σ H1 { s1 with heap := h' } := I1.kept (t' := s1.toks) hk
      have D : ZipSep2 (s1.heap.objs.size + 4) (s1.heap.objs.size + 2) (s1.heap.objs.size + 3) s1.heap.objs.size (s1.heap.objs.size + 1) ((f1 t1).fp s1.heap.objs.size) ((f2 t2).fp (s1.heap.objs.size + 1)) := by
        rw [SK.fp_eq, SK.fp_eq]
        exact zip_sep2 l1 l2
      refine ⟨_, [s1.heap.objs.size + 4, s1.heap.objs.size + 2, s1.heap.objs.size + 3, s1.heap.objs.size, s1.heap.objs.size + 1], _, _, H1, rfl, I2, turn_S D, ⟨hz, hTI, ⟨_, _, hTO⟩, i1 _ _ g1, i2 _ _ g2⟩, fun c hcm => ?_, q1 t1 t2⟩
      have hle : s1.heap.objs.size ≤ c := by
        simp only [List.mem_cons, List.not_mem_nil, or_false] at hcm
        rcases hcm with z | z | z | z | z
        · rw [z]; exact Nat.le_add_right _ _
        · rw [z]; exact Nat.le_add_right _ _
        · rw [z]; exact Nat.le_add_right _ _
        · rw [z]; exact Nat.le_refl _
        · rw [z]; exact Nat.le_add_right _ _
      exact I1.fpOk hle (I1.hok.fresh hle)
/-! enumerate -/
def ItN (K : PySem.W.Frag) (k : SK) : It :=
  ⟨fun i H => ∃ x, k.has K i x H,
    fun i H v H' => ∃ T x, v = .ref T ∧ H T = none ∧ H' = upd H T (.tup [.int (i : Int), x]) ∧ k.yl K i x H,
    fun i H => k.fin K i H⟩
theorem turn_N {P : Program} {w : World} {K : PySem.W.Frag} {elts : List Expr} {kk : Nat} {tpos : Pos} {k : SK} {e q : Addr} (h1 : e ≠ q) (h2 : e ∉ k.fp q) :
    Turn P w K (.Tuple elts kk tpos) (ItN K k) [e, q] e (fun i h => (∃ old, IsEnum h e q (0 + (i : Int)) old) ∧ k.it q i h) where
  mem := by simp
  obj := fun i h st c hc => by
    obtain ⟨⟨old, he⟩, hq⟩ := st
    simp only [List.mem_cons, List.not_mem_nil, or_false] at hc
    rcases hc with rfl | rfl
    · exact ⟨_, he, fun v q => nomatch q⟩
    · cases k with
      | l a => obtain ⟨o, e, _, d⟩ := hq; exact ⟨o, e, fun v z => by rw [d] at z; cases z⟩
      | t a => obtain ⟨o, e, _, d⟩ := hq; exact ⟨o, e, fun v z => by rw [d] at z; cases z⟩
      | s a t => obtain ⟨o, e, _, d⟩ := hq; exact ⟨o, e, fun v z => by rw [d] at z; cases z⟩
  keep := fun i h h' st kp => by
    obtain ⟨⟨old, he⟩, hq⟩ := st
    refine ⟨⟨old, kp e (by simp) _ he⟩, ?_⟩
    have hk := kp q (by simp)
    cases k with
    | l a => obtain ⟨o, e, r⟩ := hq; exact ⟨o, hk o e, r⟩
    | t a => obtain ⟨o, e, r⟩ := hq; exact ⟨o, hk o e, r⟩
    | s a t => obtain ⟨o, e, r⟩ := hq; exact ⟨o, hk o e, r⟩
  item := by
    intro X hP hw hK hc i pins s σ H E I hf st hg
    subst hP hw hK
    obtain ⟨⟨old, he⟩, hq⟩ := st
    obtain ⟨x, g1⟩ := hg
    obtain ⟨n1, P1, St1, D1, s1, a1, _, b1⟩ := k.draw I hc hq (.inl ⟨x, g1⟩)
    obtain ⟨l1, y1, r1⟩ := a1 x g1
    have hif : q ∈ k.fp q := by rw [SK.fp_eq]; simp
    have W := WalksT.enumFrom 0 D1 e h1 h2 hif
    refine W.item i s _ _ l1 ⟨⟨old, he⟩, s1⟩ fun T vals h' tk hP hle hT hM hk => ⟨_, rfl, ?_⟩
    refine W.go elts kk tpos i T _ _ _ hM fun h'' hS hk2 => ?_
    obtain ⟨t, u, p1, rfl⟩ := hP
    obtain ⟨o, ho, hoc, no, hod⟩ := hT
    have hT2 : h''.get? T = some o := hk2 T o (W.apart i T h' hM) ho
    have e0 : (0 : Int) + (i : Int) = (i : Int) := Int.zero_add _
    have new : ObjOk X.prog X.w (upd H T (.tup [.int (i : Int), x])) h'' T (.tup [.int (i : Int), x]) :=
      ⟨by show 2 ≤ sizeLine; decide, [.int (0 + (i : Int)) t, u], .cons ⟨t, by rw [e0]⟩ (.cons (r1 u p1) .nil), ⟨o, hT2, hoc, no, hod⟩⟩
    have I1 : Inv X pins σ (upd H T (.tup [.int (i : Int), x])) { s with heap := h'', toks := tk } :=
      I.turnedNew (t' := tk) (ch := [e, q]) (fun c o hb q => hk2 c o hb (hk c o hb q)) hf hle new
    obtain ⟨he3, s13⟩ := hS
    refine ⟨.ref T, _, I1, rfl, ⟨T, x, rfl, I.hok.fresh hle, rfl, y1⟩, ⟨he3, b1 _ _ s13⟩, fun c hcm => ?_⟩
    have hlt : ∃ o, s.heap.get? c = some o := by
      simp only [List.mem_cons, List.not_mem_nil, or_false] at hcm
      rcases hcm with rfl | rfl
      · exact ⟨_, he⟩
      · exact D1.live _ _ s1
    obtain ⟨o', ho'⟩ := hlt
    rw [upd_ne (Nat.ne_of_lt (Nat.lt_of_lt_of_le (Heap.lt_size ho') hle))]
    exact (hf c hcm).1
  done := by
    intro X hP hw hK hc i pins s σ H E I hf st hg
    subst hP hw hK
    obtain ⟨⟨old, he⟩, hq⟩ := st
    obtain ⟨n1, P1, St1, D1, s1, a1, c1, b1⟩ := k.draw I hc hq (.inr hg)
    have hif : q ∈ k.fp q := by rw [SK.fp_eq]; simp
    have W := WalksT.enumFrom 0 D1 e h1 h2 hif
    exact W.done s _ _ (by rw [c1 hg]; exact ⟨⟨old, he⟩, s1⟩) fun h' tk hk => ⟨rfl, I.turnedL (t' := tk) (ch := [e, q]) (fun c o hb q => hk c o hb q) hf⟩
  self := fun A i s Q E st h => by
    obtain ⟨⟨old, he⟩, _⟩ := st
    exact wpAny_pyIter_enum he h
end DL
namespace DL
open PySem PySem.Spec PyProof.Rows L2

/-! ### enumerate(v) begins, v of any kind -/
theorem meets_enum1 {v : Value} {o : Obj} {H : Heap → Prop} (B : Begins v o H) :
    Meets (Builtin.«enumerate.__new__» ⟨[.type "enumerate", v], []⟩) (fun _ R s => H s.heap ∧
      R (.ok (.ret (.ref (s.heap.push o).objs.size))) { s with heap := (s.heap.push o).push { cls := .type "enumerate", data := .fields #[.none, .bool false, .ref s.heap.objs.size, rawInt 0, .none, .none] } }) := by
  refine .of_wp fun prog w A R s h => ?_
  obtain ⟨hp, g, d, tk, os⟩ := s
  obtain ⟨h1, h⟩ := h
  have hsub := sub_enumerate
  have q : ∀ {A' : Around} {E : Value → Shared → Prop} {Q : Value → Shared → Prop}, Q (.ref hp.objs.size) ⟨hp.push o, g, d, tk, os⟩ → wpAny (model prog w) A' (pyIter v) Q E ⟨hp, g, d, tk, os⟩ := fun z => B.iter prog w _ _ ⟨hp, g, d, tk, os⟩ _ h1 z
  wp_walk using q
  refine wpAny_stack_any fun st => wpAny_pure ?_
  split
  · rename_i c _ _ _ _ _
    cases (c == Value.type "enumerate")
    · wp_walk using q
      exact ⟨_, rfl, h⟩
    · wp_walk using q
      exact ⟨_, rfl, h⟩
  · wp_walk using q
    exact ⟨_, rfl, h⟩
def iEnumS (K : PySem.W.Frag) (ta : TA) : TI := fun σ H R => ta σ H fun vs H1 => ∃ v f, vs = [v] ∧ Src K H1 v f ∧ ∀ t, R (ItN K (f t)) H1
theorem pi_enumS {X : Cx} {e : Expr} {ta : TA} {p pos tpos : Pos} {elts : List Expr} {kk : Nat} (hg : Gl X "enumerate") (hm : X.mg "enumerate" = none) (ha : PA X [e] ta) (hs : starEach [e] X.env = [(false, eval e X.env)] := by rfl) :
    PI X (.Tuple elts kk tpos) (.Call (.Name "enumerate" p) [e] [] pos) (iEnumS X.K ta) := by
  refine ⟨fun pins s σ H R I h => ?_⟩
  refine Call_ (ld_blt I hg hm boot_enumerate (PyProof.Rows.callWith_type1 (thn (ha.run pos pins s σ H _ I h) fun us s1 ⟨vs, H1, I1, r1, q1⟩ => ?_) hs rfl))
  obtain ⟨v, f, ex, hsrc, q⟩ := q1
  subst ex
  cases r1 with
  | cons r rr =>
    cases rr
    obtain ⟨t, o, P, B, b, i, l⟩ := hsrc.begins I1 r
    refine callType_new F.called_enumerate (by decide) (F.typeCall_enumerate_1 _) (F.newCall_enumerate_1 _) (fun obj => F.args_object_init_2 obj _) F.entry_enumerate_new (meets_enum1 B) ⟨b, ?_⟩
    show _ ∧ _
    have hz : (s1.heap.push o).objs.size = s1.heap.objs.size + 1 := Heap.size_push ..
    have he : IsEnum ((s1.heap.push o).push { cls := .type "enumerate", data := .fields #[.none, .bool false, .ref s1.heap.objs.size, rawInt 0, .none, .none] }) (s1.heap.push o).objs.size s1.heap.objs.size 0 .none := Heap.get?_push_size _ rfl
    have hk : ∀ c w, s1.heap.get? c = some w → ((s1.heap.push o).push { cls := .type "enumerate", data := .fields #[.none, .bool false, .ref s1.heap.objs.size, rawInt 0, .none, .none] }).get? c = some w := fun c w e => Heap.get?_push_of_some _ (Heap.get?_push_of_some _ e)
    have g1 : ((s1.heap.push o).push { cls := .type "enumerate", data := .fields #[.none, .bool false, .ref s1.heap.objs.size, rawInt 0, .none, .none] }).get? s1.heap.objs.size = some o := Heap.get?_push_of_some _ (Heap.get?_push_size _ B.free)
    rw [hz] at he ⊢
    refine ⟨⟨_, he, rfl⟩, wpAny_pyIter_enum he ?_⟩
    have I2 : Inv X pins σ H1 { s1 with heap := (s1.heap.push o).push { cls := .type "enumerate", data := .fields #[.none, .bool false, .ref s1.heap.objs.size, rawInt 0, .none, .none] } } := I1.kept (t' := s1.toks) hk
    have hne : (s1.heap.objs.size + 1 : Nat) ≠ s1.heap.objs.size := Nat.succ_ne_self _
    have hnf : (s1.heap.objs.size + 1 : Nat) ∉ (f t).fp s1.heap.objs.size := by
      rw [SK.fp_eq]
      intro z
      rcases List.mem_cons.mp z with z | z
      · exact hne z
      · exact Nat.not_lt.mpr (Nat.le_add_right _ 1) (l _ z)
    refine ⟨_, [s1.heap.objs.size + 1, s1.heap.objs.size], _, _, H1, rfl, I2, turn_N hne hnf, ⟨⟨.none, he⟩, i _ _ g1⟩, fun c hcm => ?_, q t⟩
    have hle : s1.heap.objs.size ≤ c := by
      simp only [List.mem_cons, List.not_mem_nil, or_false] at hcm
      rcases hcm with z | z
      · rw [z]; exact Nat.le_add_right _ _
      · rw [z]; exact Nat.le_refl _
    exact I1.fpOk hle (I1.hok.fresh hle)

/-! ### the readings -/
/-- what a walked value holds, and what must stay as it is while it is walked -/
def srcAt (d : D) (S : Sto) (R : List D → (Sto → Prop) → Prop) : Prop := match d with
  | .tup xs => R xs noG
  | .str z => R (z.cps.toList.map fun c => .str ⟨#[c]⟩) noG
  | .ref n => iterAt n S R
  | _ => False
def zipD (xs ys : List D) : List D := List.zipWith (fun x y => .tup [x, y]) xs ys
def enumD : Nat → List D → List D
  | _, [] => []
  | i, x :: r => .tup [.int (i : Int), x] :: enumD (i + 1) r
def iZip (t u : TD) : TDI := fun Rx ρ S R => t Rx ρ S fun d S1 => u Rx ρ S1 fun e S2 => srcAt d S2 fun xs G => srcAt e S2 fun ys G' => R (zipD xs ys) (fun S => G S ∧ G' S) S2
def iEnum (t : TD) : TDI := fun Rx ρ S R => t Rx ρ S fun d S1 => srcAt d S1 fun xs G => R (enumD 0 xs) G S1
/-- a source of the lower layer that tells these -/
structure SrcD (K : PySem.W.Frag) (H : Hp) (μ : List Addr) (k : SK) (xs : List D) (G : Sto → Prop) : Prop where
  has : ∀ H' μ' S, Ext K H μ H' μ' → Sim K H' μ' S → G S → (∀ i, i < xs.length → ∃ x, k.has K i x H') ∧ k.fin K xs.length H'
  yl : ∀ H' μ' S, Ext K H μ H' μ' → Sim K H' μ' S → G S → ∀ i x d, k.yl K i x H' → xs[i]? = some d → Rep K H' μ' d x
theorem src_of {K : PySem.W.Frag} {H : Hp} {μ : List Addr} {S : Sto} {d : D} {v : V} {R : List D → (Sto → Prop) → Prop} (s : Sim K H μ S) (r : Rep K H μ d v) (h : srcAt d S R) : ∃ f xs G, Src K H v f ∧ R xs G ∧ ∀ t, SrcD K H μ (f t) xs G := by
  unfold srcAt at h
  split at h
  · cases r with | tup t q =>
    refine ⟨_, _, _, .t t, h, fun _ => ⟨fun H' μ' S e s' _ => ⟨fun i hi => ?_, _, e.tup _ _ t, q.length.symm⟩, fun H' μ' S e s' _ i x d hy hd => ?_⟩⟩
    · have hi' := q.length ▸ hi
      exact ⟨_, _, e.tup _ _ t, List.getElem?_eq_getElem hi'⟩
    · obtain ⟨u, hu, ru⟩ := (q.mono e).get hd
      have := hy _ (e.tup _ _ t)
      rw [hu] at this
      cases this
      exact ru
  · rename_i z
    cases r
    refine ⟨_, _, _, .s z, h, fun t => ⟨fun H' μ' S e s' _ => ⟨fun i hi => ?_, ?_⟩, fun H' μ' S e s' _ i x d hy hd => ?_⟩⟩
    · rw [List.length_map, Array.length_toList] at hi
      exact ⟨_, _, Array.getElem?_eq_getElem hi, rfl⟩
    · show z.cps.size = _
      rw [List.length_map, Array.length_toList]
    · obtain ⟨c, hc, rfl⟩ := hy
      rw [List.getElem?_map, Array.getElem?_toList, hc] at hd
      cases hd
      exact .str _
  · cases r with | ref g =>
    obtain ⟨xs, h⟩ := iter_inv h
    rcases h with ⟨g', h⟩ | ⟨g', h⟩
    · obtain ⟨vs, hv, q⟩ := s.lst g g'
      refine ⟨_, _, _, .l (SqL.of hv), h, fun t => ⟨fun H' μ' S e s' hS => ?_, fun H' μ' S e s' hS i x d hy hd => ?_⟩⟩
      · obtain ⟨ws, hw, qw⟩ := s'.lst (e.mu _ _ g) hS
        exact ⟨fun i hi => ⟨_, _, SqL.of hw, List.getElem?_eq_getElem (qw.length ▸ hi)⟩, _, SqL.of hw, qw.length.symm⟩
      · obtain ⟨ws, hw, qw⟩ := s'.lst (e.mu _ _ g) hS
        obtain ⟨u, hu, ru⟩ := qw.get hd
        have := hy _ (SqL.of hw)
        rw [hu] at this
        cases this
        exact ru
    · obtain ⟨vs, hv, q⟩ := s.fix g g'
      refine ⟨_, _, _, .l hv.sql, h, fun t => ⟨fun H' μ' S e s' hS => ?_, fun H' μ' S e s' hS i x d hy hd => ?_⟩⟩
      · obtain ⟨ws, hw, qw⟩ := s'.fix (e.mu _ _ g) hS
        exact ⟨fun i hi => ⟨_, _, hw.sql, List.getElem?_eq_getElem (qw.length ▸ hi)⟩, _, hw.sql, qw.length.symm⟩
      · obtain ⟨ws, hw, qw⟩ := s'.fix (e.mu _ _ g) hS
        obtain ⟨u, hu, ru⟩ := qw.get hd
        have := hy _ hw.sql
        rw [hu] at this
        cases this
        exact ru
  · exact h.elim
theorem enumD_length : ∀ (xs : List D) (i : Nat), (enumD i xs).length = xs.length
  | [], _ => rfl
  | x :: r, i => by
    show (enumD (i + 1) r).length + 1 = r.length + 1
    rw [enumD_length r]
theorem enumD_get : ∀ (xs : List D) (j i : Nat), (enumD j xs)[i]? = xs[i]?.map fun x => .tup [.int ((j + i : Nat) : Int), x]
  | [], _, _ => by simp [enumD]
  | x :: r, j, 0 => by simp [enumD]
  | x :: r, j, i + 1 => by
    show (enumD (j + 1) r)[i]? = _
    rw [enumD_get r (j + 1) i, List.getElem?_cons_succ, show j + 1 + i = j + (i + 1) by omega]
theorem wd_enum {K : PySem.W.Frag} {H : Hp} {μ : List Addr} {k : SK} {xs : List D} {G : Sto → Prop} (h : SrcD K H μ k xs G) : WalkD K H μ (ItN K k) (enumD 0 xs) G := by
  refine ⟨fun H' => (∀ i, i < xs.length → ∃ x, k.has K i x H') ∧ k.fin K xs.length H', fun i H' v H'' => (ItN K k).yld i H' v H'', ⟨?_, ?_, ?_⟩, fun H' μ' S e s g => h.has H' μ' S e s g, ?_⟩
  · intro i H' hi hg
    rw [enumD_length] at hi
    exact hg.1 i hi
  · intro H' hg
    rw [enumD_length]
    exact hg.2
  · intro i H' x H'' _ _ y
    exact y
  · rintro i v H' H'' μ' S d e s hS hd ⟨T, x, rfl, hT, rfl, hy⟩
    rw [enumD_get, Nat.zero_add] at hd
    cases hx : xs[i]? with
    | none => rw [hx] at hd; cases hd
    | some d' =>
      rw [hx] at hd
      cases hd
      exact s.newTup hT (.cons (.int _) (.cons (h.yl H' μ' S e s hS i x d' hy hx) .nil))
theorem wd_zip {K : PySem.W.Frag} {H : Hp} {μ : List Addr} {k k' : SK} {xs ys : List D} {G G' : Sto → Prop} (h : SrcD K H μ k xs G) (h' : SrcD K H μ k' ys G') : WalkD K H μ (ItS K k k') (zipD xs ys) (fun S => G S ∧ G' S) := by
  have hl : (zipD xs ys).length = min xs.length ys.length := by unfold zipD; rw [List.length_zipWith]
  refine ⟨fun H' => ((∀ i, i < xs.length → ∃ x, k.has K i x H') ∧ k.fin K xs.length H') ∧ ((∀ i, i < ys.length → ∃ x, k'.has K i x H') ∧ k'.fin K ys.length H'), fun i H' v H'' => (ItS K k k').yld i H' v H'', ⟨?_, ?_, ?_⟩, fun H' μ' S e s g => ⟨h.has H' μ' S e s g.1, h'.has H' μ' S e s g.2⟩, ?_⟩
  · intro i H' hi hg
    rw [hl] at hi
    exact ⟨hg.1.1 i (by omega), hg.2.1 i (by omega)⟩
  · intro H' hg
    rw [hl]
    obtain ⟨⟨a1, a2⟩, b1, b2⟩ := hg
    refine ⟨?_, ?_, ?_⟩
    · by_cases hh : xs.length ≤ ys.length
      · exact .inr (by rw [Nat.min_eq_left hh]; exact a2)
      · exact .inl (a1 _ (by omega))
    · by_cases hh : ys.length ≤ xs.length
      · exact .inr (by rw [Nat.min_eq_right hh]; exact b2)
      · exact .inl (b1 _ (by omega))
    · by_cases hh : xs.length ≤ ys.length
      · exact .inl (by rw [Nat.min_eq_left hh]; exact a2)
      · exact .inr (by rw [Nat.min_eq_right (by omega)]; exact b2)
  · intro i H' x H'' _ _ y
    exact y
  · rintro i v H' H'' μ' S d e s hS hd ⟨T, x, y, rfl, hT, rfl, hy, hy'⟩
    unfold zipD at hd
    rw [List.getElem?_zipWith] at hd
    cases hx : xs[i]? with
    | none => rw [hx] at hd; cases hd
    | some d1 =>
      cases hx' : ys[i]? with
      | none => rw [hx, hx'] at hd; cases hd
      | some d2 =>
        rw [hx, hx'] at hd
        cases hd
        exact s.newTup hT (.cons (h.yl H' μ' S e s hS.1 i x d1 hy hx) (.cons (h'.yl H' μ' S e s hS.2 i y d2 hy' hx') .nil))
section
variable {X : Cx} {W : WX} {a b : Expr} {ta tb : TD} {pos tpos : Pos} {elts : List Expr} {kk : Nat}
theorem di_enum {p : Pos} (hm : X.mg "enumerate" = none) (ha : PE X a (dE X.K W ta)) (hg : Gl X "enumerate" := by rfl) (hs : starEach [a] X.env = [(false, eval a X.env)] := by rfl) : PI X (.Tuple elts kk tpos) (.Call (.Name "enumerate" p) [a] [] pos) (dI X.K W (iEnum ta)) := by
  refine (pi_enumS hg hm (pa_cons ha pa_nil hs) hs).imp fun σ H R ⟨ρ, μ, S, Rd, Rx, at_, h, ox, k⟩ => ?_
  refine ⟨ρ, μ, S, _, Rx, at_, h, fun d S' v μ' H' h' e s r => ?_, ox⟩
  obtain ⟨f, xs, G, h1, h2, h3⟩ := src_of s r h'
  exact ⟨_, f, rfl, h1, fun t => k _ _ _ _ _ _ h2 e s (wd_enum (h3 t))⟩
theorem di_zip {p : Pos} (hm : X.mg "zip" = none) (ha : PE X a (dE X.K W ta)) (hb : PE X b (dE X.K W tb)) (hg : Gl X "zip" := by rfl) (hs : starEach [a, b] X.env = (false, eval a X.env) :: starEach [b] X.env := by rfl) (hs2 : starEach [b] X.env = [(false, eval b X.env)] := by rfl) (hpl : (backTo pos (starEach [b] X.env)).any (·.1) = false := by rfl) :
    PI X (.Tuple elts kk tpos) (.Call (.Name "zip" p) [a, b] [] pos) (dI X.K W (iZip ta tb)) := by
  refine (pi_zipS hg hm (pa_cons ha (pa_cons hb pa_nil hs2) hs) hs hpl).imp fun σ H R ⟨ρ, μ, S, Rd, Rx, at_, h, ox, k⟩ => ?_
  refine ⟨ρ, μ, S, _, Rx, at_, h, fun x S1 v μ1 H1 h1 e1 s1 r1 => ?_, ox⟩
  refine ⟨ρ, μ1, S1, _, Rx, ⟨at_.env.mono e1, s1⟩, h1, fun y S2 w μ2 H2 h2 e2 s2 r2 => ?_, ox.ext e1⟩
  obtain ⟨f, xs, G, g1, h3, g3⟩ := src_of s2 (r1.mono e2) h2
  obtain ⟨f', ys, G', g1', h4, g3'⟩ := src_of s2 r2 h3
  exact ⟨_, _, f, f', rfl, g1, g1', fun t t' => k _ _ _ _ _ _ h4 (e1.trans e2) s2 (wd_zip (g3 t) (g3' t'))⟩
end
end DL
namespace DL
open PySem PySem.Spec PyProof.Rows L2

/-! ### sums, the greater and the lesser of two -/
theorem reps_ints {K : PySem.W.Frag} {H : Hp} {μ : List Addr} : ∀ {ns : List Int} {vs : List V}, Reps K H μ (ns.map D.int) vs → vs = ns.map V.int
  | [], _, .nil => rfl
  | n :: ns, _, .cons (.int _) t => by rw [reps_ints (ns := ns) t]; rfl
def sumD : OC := fun xs S R => match xs with
  | [.ref n] => lstAt n S fun xs => ∃ ns : List Int, xs = ns.map D.int ∧ R (.int ns.sum) S
  | _ => False
theorem br_sum {X : Cx} : BrC X.K (rSum X.K) sumD := by
  intro xs S R vs μ H Q s r h ok
  unfold sumD at h
  split at h
  · cases r with | cons r1 r2 =>
    cases r2
    cases r1 with | ref g =>
    obtain ⟨xs, e, ns, rfl, h⟩ := lst_inv h
    obtain ⟨vs, hv, q⟩ := s.lstR g e
    cases reps_ints q
    exact ⟨_, ns, rfl, hv, ok _ _ _ _ _ h Ext.refl s (.int _)⟩
  · exact h.elim
def maxD : OC := fun xs S R => match xs with
  | [.int i, .int j] => R (.int (if j > i then j else i)) S
  | _ => False
def minD : OC := fun xs S R => match xs with
  | [.int i, .int j] => R (.int (if j < i then j else i)) S
  | _ => False
theorem br_max {X : Cx} : BrC X.K (fun xs H Q => ∃ i j, xs = [.int i, .int j] ∧ Q (.int (if j > i then j else i)) H) maxD := by
  intro xs S R vs μ H Q s r h ok
  unfold maxD at h
  split at h
  · cases r with | cons r1 r2 =>
    cases r2 with | cons r2 r3 =>
    cases r3
    cases r1
    cases r2
    exact ⟨_, _, rfl, ok _ _ _ _ _ h Ext.refl s (.int _)⟩
  · exact h.elim
theorem br_min {X : Cx} : BrC X.K (fun xs H Q => ∃ i j, xs = [.int i, .int j] ∧ Q (.int (if j < i then j else i)) H) minD := by
  intro xs S R vs μ H Q s r h ok
  unfold minD at h
  split at h
  · cases r with | cons r1 r2 =>
    cases r2 with | cons r2 r3 =>
    cases r3
    cases r1
    cases r2
    exact ⟨_, _, rfl, ok _ _ _ _ _ h Ext.refl s (.int _)⟩
  · exact h.elim
end DL
namespace DL
open PySem PySem.Spec PyProof.Rows L2

/-! ### loops by what holds at each turn -/
/-- a comprehension: J j acc S holds when j items are walked and acc is told -/
theorem lc_ind {n : Nat} {G : Sto → Prop} {g : TDG} {tt : TDT} {te : TD} {ρ : Ev} {Rq : Sto → Prop} (J : Nat → List D → Sto → Prop) (xs : List D)
    (hJ : ∀ j acc S, J j acc S → G S ∧ S[n]? = some (.lst acc) ∧ acc.length ≤ 100000)
    (step : ∀ j x acc S (R : RD) (Z : Sto → Prop), xs[j]? = some x → J j acc S → (∀ d S', S'[n]? = some (.lst acc) → J (j + 1) (acc ++ [d]) (S'.set n (.lst (acc ++ [d]))) → R d S') → (∀ S', J (j + 1) acc S' → Z S') →
      g x ρ S fun ρ1 S1 => tt noX ρ1 S1 fun b S2 => ift b (te noX ρ1 S2 R) (Z S2))
    {S : Sto} {acc : List D} (h0 : J 0 acc S) (done : ∀ acc S, J xs.length acc S → Rq S) : lcW n G g tt te ρ Rq xs S := by
  have go : ∀ (ys : List D) (j : Nat) (acc : List D) (S : Sto), j ≤ xs.length → xs.drop j = ys → J j acc S → lcW n G g tt te ρ Rq ys S := by
    intro ys
    induction ys with
    | nil =>
      intro j acc S hle hj h
      have hlen : xs.length ≤ j := List.drop_eq_nil_iff.mp hj
      obtain rfl : j = xs.length := by omega
      exact ⟨(hJ _ _ _ h).1, done _ _ h⟩
    | cons y ys ih =>
      intro j acc S hle hj h
      have hlt : j < xs.length := by
        apply Decidable.byContradiction
        intro hn
        rw [List.drop_eq_nil_of_le (by omega)] at hj
        cases hj
      rw [List.drop_eq_getElem_cons hlt] at hj
      cases hj
      obtain ⟨h1, h2, h3⟩ := hJ _ _ _ h
      refine ⟨h1, step j _ acc S _ _ (List.getElem?_eq_getElem hlt) h (fun d S' hs hj' => ?_) fun S' hj' => ih (j + 1) acc S' hlt rfl hj'⟩
      refine mlst_at hs ⟨?_, ih (j + 1) _ _ hlt rfl hj'⟩
      have : 100000 < sizeLine := by decide
      omega
  exact go xs 0 acc S (Nat.zero_le _) rfl h0
/-- a for: J j ρ S holds when j items are walked -/
theorem for_ind {G : Sto → Prop} {g : TDG} {t : TDS} {E : DEnds} (J : Nat → Ev → Sto → Prop) (xs : List D) (hJ : ∀ j ρ S, J j ρ S → G S)
    (step : ∀ j x ρ S (E' : DEnds), xs[j]? = some x → J j ρ S → E'.rt = E.rt → E'.ex = E.ex → E'.bk = E.nx → (∀ ρ' S', J (j + 1) ρ' S' → E'.nx ρ' S') → (∀ ρ' S', J (j + 1) ρ' S' → E'.ct ρ' S') → g x ρ S fun ρ1 S1 => t E' ρ1 S1)
    {ρ : Ev} {S : Sto} (h0 : J 0 ρ S) (done : ∀ ρ S, J xs.length ρ S → E.nx ρ S) : forW G g t E xs ρ S := by
  have go : ∀ (ys : List D) (j : Nat) (ρ : Ev) (S : Sto), j ≤ xs.length → xs.drop j = ys → J j ρ S → forW G g t E ys ρ S := by
    intro ys
    induction ys with
    | nil =>
      intro j ρ S hle hj h
      have hlen : xs.length ≤ j := List.drop_eq_nil_iff.mp hj
      obtain rfl : j = xs.length := by omega
      exact ⟨hJ _ _ _ h, done _ _ h⟩
    | cons y ys ih =>
      intro j ρ S hle hj h
      have hlt : j < xs.length := by
        apply Decidable.byContradiction
        intro hn
        rw [List.drop_eq_nil_of_le (by omega)] at hj
        cases hj
      rw [List.drop_eq_getElem_cons hlt] at hj
      cases hj
      exact ⟨hJ _ _ _ h, step j _ ρ S _ (List.getElem?_eq_getElem hlt) h rfl rfl rfl (fun ρ' S' hj' => ih (j + 1) ρ' S' hlt rfl hj') fun ρ' S' hj' => ih (j + 1) ρ' S' hlt rfl hj'⟩
  exact go xs 0 ρ S (Nat.zero_le _) rfl h0
/-- a while: J k ρ S holds, k the most turns left -/
theorem while_ind {c : TDT} {t : TDS} {E : DEnds} (J : Nat → Ev → Sto → Prop)
    (step : ∀ k ρ S (A : Ev → Sto → Prop) (B : Ev → Sto → Prop) (E' : DEnds), J k ρ S → E'.rt = E.rt → E'.ex = E.ex → E'.bk = E.nx → (∀ j ρ' S', j < k → J j ρ' S' → E'.nx ρ' S') → (∀ j ρ' S', j < k → J j ρ' S' → E'.ct ρ' S') →
      c (E.x ρ) ρ S fun b S1 => ift b (t E' ρ S1) (E.nx ρ S1))
    {k : Nat} {ρ : Ev} {S : Sto} (h0 : J k ρ S) : whileN c t E (k + 1) ρ S := by
  have go : ∀ (m k : Nat) (ρ : Ev) (S : Sto), k < m → J k ρ S → whileN c t E m ρ S := by
    intro m
    induction m with
    | zero => intro k ρ S h; omega
    | succ m ih =>
      intro k ρ S h hj
      exact step k ρ S (fun _ _ => True) (fun _ _ => True) _ hj rfl rfl rfl (fun j ρ' S' hl hj' => ih j ρ' S' (by omega) hj') fun j ρ' S' hl hj' => ih j ρ' S' (by omega) hj'
  exact go (k + 1) k ρ S (by omega) h0
theorem getElem_range {lo : Int} {n j : Nat} {d : D} (h : (rangeD lo n)[j]? = some d) : j < n ∧ d = .int (lo + (j : Int)) := by
  unfold rangeD at h
  rw [List.getElem?_map] at h
  by_cases hj : j < n
  · rw [List.getElem?_range hj] at h
    cases h
    exact ⟨hj, rfl⟩
  · rw [List.getElem?_eq_none (by rw [List.length_range]; omega)] at h
    cases h
theorem range_len {lo : Int} {n : Nat} : (rangeD lo n).length = n := by unfold rangeD; rw [List.length_map, List.length_range]
theorem ixN_nat {n j : Nat} (h : j < n) : ixN n (j : Int) = some j := by
  unfold ixN
  rw [if_pos (by omega), if_pos (by omega)]
  simp
theorem set_k {xs : List D} {j : Nat} {z : Nat → Prop} (h : j < xs.length) (hz : z j) : setK xs (j : Int) z := by
  unfold setK
  rw [ixN_nat h]
  exact hz
theorem pls_all : ∀ {xs : List D}, (∀ x ∈ xs, Pl x) → Pls xs
  | [], _ => pls_nil
  | x :: r, h => pls_cons.mpr ⟨h x (by simp), pls_all fun y hy => h y (by simp [hy])⟩
theorem wts_cons {x : D} {r : List D} : wts (x :: r) = wt x + wts r := by rw [wts]
theorem wt_tup {xs : List D} : wt (.tup xs) = wts xs + 1 := by rw [wt]
theorem wts_nil : wts [] = 0 := by rw [wts]
theorem wts_le {b : Nat} : ∀ {xs : List D}, (∀ x ∈ xs, wt x ≤ b) → wts xs ≤ b * xs.length
  | [], _ => by rw [wts_nil]; exact Nat.zero_le _
  | x :: r, h => by
    have h1 := h x (by simp)
    have h2 := wts_le (xs := r) fun y hy => h y (by simp [hy])
    rw [wts_cons, List.length_cons, Nat.mul_succ]
    omega
theorem wt_int {i : Int} : wt (.int i) = 1 := by rw [wt]; intro _ z; cases z
theorem wt_str {i : Str} : wt (.str i) = 1 := by rw [wt]; intro _ z; cases z
theorem wt_bl {i : Bool} : wt (.bl i) = 1 := by rw [wt]; intro _ z; cases z
theorem wt_non : wt .non = 1 := by rw [wt]; intro _ z; cases z
/-- pairs.append(..) -/
theorem app_prs {W : List Nat} {p c : Nat} {S : Sto} {x : D} {R : RD} (hp : Prs W p c S) (hx : Good x) (hc : c < 100000) (k : ∀ S', (∀ i, i ≠ p → S'[i]? = S[i]?) → S'.length = S.length → Prs W p (c + 1) S' → R .non S') : appD x p S R := by
  obtain ⟨nW, ps, h1, h2, h3⟩ := hp
  have lp := lt_of_get h1
  have hs : 100000 < sizeLine := by decide
  refine mlst_at h1 ⟨by omega, k _ (fun i hi => List.getElem?_set_ne (Ne.symm hi)) (by simp) ⟨nW, ps ++ [x], List.getElem?_set_self lp, fun y hy => ?_, by simp; omega⟩⟩
  rcases List.mem_append.mp hy with h | h
  · exact h2 y h
  · rw [List.mem_singleton.mp h]; exact hx
theorem Prs.m {W : List Nat} {p c : Nat} {S : Sto} (h : Prs W p c S) : mlstAt p S fun _ => True := by
  obtain ⟨_, ps, h1, _⟩ := h
  exact mlst_at h1 trivial
theorem add_int {i j z : Int} {S : Sto} {R : RD} (e : i + j = z) (h : R (.int z) S) : addD (.int i) (.int j) S R := by
  subst e
  exact h
end DL
namespace K12
open PySem PySem.Spec PyProof.Rows L2 DL
/-! ### the text by places, readings (printed by gen.py) -/
def topS (i : Nat) : Stmt := PySem.Challenge.pw_cheapathand_k12_what_is_mixed_and_paid.main.body.getD i (.Pass ⟨0, 0, 0, 0⟩)
def c_ZERO : D := .tup [.int 0, .int 1]
abbrev s_common_divisor : Stmt := topS 2
def c1_common_divisor : TDT :=
  (tTru (e2 neD (eVar 1) (eC (.int 0))))
def b1_common_divisor : TDS :=
  (sPar 0 1 (aCons (eVar 1) (aCons (e2 modD (eVar 0) (eVar 1)) aNil)))
def t_common_divisor : TDS :=
  (sSeq (sPar 0 1 (aCons (eB absD (aCons (eVar 0) aNil)) (aCons (eB absD (aCons (eVar 1) aNil)) aNil)))
  (sSeq (sWhile c1_common_divisor b1_common_divisor)
  (sRet (eVar 0))))
@[irreducible] def w_common_divisor : DSp := wOf 2 t_common_divisor
theorem w_common_divisor_eq : w_common_divisor = wOf 2 t_common_divisor := by unfold w_common_divisor; rfl

abbrev s_ratio : Stmt := topS 3
def t_ratio : TDS :=
  (sSeq (sIf (tTru (e2 ltD (eVar 1) (eC (.int 0))))
  (sPar 0 1 (aCons (e1 negD (eVar 0)) (aCons (e1 negD (eVar 1)) aNil)))
  sNext)
  (sSeq (sSet 2 (eCall w_common_divisor (aCons (eVar 0) (aCons (eVar 1) aNil))))
  (sRet (eTup (aCons (e2 divD (eVar 0) (eVar 2)) (aCons (e2 divD (eVar 1) (eVar 2)) aNil))))))
@[irreducible] def w_ratio : DSp := wOf 3 t_ratio
theorem w_ratio_eq : w_ratio = wOf 3 t_ratio := by unfold w_ratio; rfl

abbrev s_ratio_plus : Stmt := topS 4
def t_ratio_plus : TDS :=
  (sRet (eCall w_ratio (aCons (e2 addD (e2 mulD (e2 ixD (eVar 0) (eC (.int 0))) (e2 ixD (eVar 1) (eC (.int 1)))) (e2 mulD (e2 ixD (eVar 1) (eC (.int 0))) (e2 ixD (eVar 0) (eC (.int 1))))) (aCons (e2 mulD (e2 ixD (eVar 0) (eC (.int 1))) (e2 ixD (eVar 1) (eC (.int 1)))) aNil))))
@[irreducible] def w_ratio_plus : DSp := wOf 2 t_ratio_plus
theorem w_ratio_plus_eq : w_ratio_plus = wOf 2 t_ratio_plus := by unfold w_ratio_plus; rfl

abbrev s_ratio_times : Stmt := topS 5
def t_ratio_times : TDS :=
  (sRet (eCall w_ratio (aCons (e2 mulD (e2 ixD (eVar 0) (eC (.int 0))) (e2 ixD (eVar 1) (eC (.int 0)))) (aCons (e2 mulD (e2 ixD (eVar 0) (eC (.int 1))) (e2 ixD (eVar 1) (eC (.int 1)))) aNil))))
@[irreducible] def w_ratio_times : DSp := wOf 2 t_ratio_times
theorem w_ratio_times_eq : w_ratio_times = wOf 2 t_ratio_times := by unfold w_ratio_times; rfl

abbrev s_mixed : Stmt := topS 7
def v1_mixed : TD :=
  (eC c_ZERO)
def v2_mixed : TD :=
  (eCall w_ratio_plus (aCons (eVar 8) (aCons (eCall w_ratio_times (aCons (eVar 4) (aCons (eTup (aCons (eVar 9) (aCons (eC (.int 1)) aNil))) aNil))) aNil)))
def f1_mixed : TDS :=
  (sSeq (sSet 2 (eCall w_ratio_plus (aCons (eVar 2) (aCons (eCall w_ratio_times (aCons (eVar 4) (aCons (eVar 5) aNil))) aNil))))
  (sSet 3 (eLC (iZip (eVar 3) (eVar 6)) (gTp 2 (gsCons (gNm 8) (gsCons (gNm 9) gsNil))) tYesD v2_mixed [8, 9])))
def t_mixed : TDS :=
  (sSeq (sPar 2 3 (aCons (eC c_ZERO) (aCons (eLC (iSeq (e2 ixD (e2 ixD (eVar 1) (eC (.int 0))) (eC (.int 1)))) (gNm 7) tYesD v1_mixed [7]) aNil)))
  (sSeq (sFor (iZip (eVar 0) (eVar 1)) (gTp 2 (gsCons (gNm 4) (gsCons (gTp 2 (gsCons (gNm 5) (gsCons (gNm 6) gsNil))) gsNil))) f1_mixed)
  (sRet (eTup (aCons (eVar 2) (aCons (eB tupleD (aCons (eVar 3) aNil)) aNil))))))
@[irreducible] def w_mixed : DSp := wOf 10 t_mixed
theorem w_mixed_eq : w_mixed = wOf 10 t_mixed := by unfold w_mixed; rfl

abbrev s_paid_at : Stmt := topS 8
def f1_paid_at : TDS :=
  (sSet 2 (eCall w_ratio_plus (aCons (eVar 2) (aCons (eCall w_ratio_times (aCons (eTup (aCons (eVar 3) (aCons (eC (.int 1)) aNil))) (aCons (eVar 4) aNil))) aNil))))
def t_paid_at : TDS :=
  (sSeq (sSet 2 (e2 ixD (eVar 0) (eC (.int 0))))
  (sSeq (sFor (iZip (e2 ixD (eVar 0) (eC (.int 1))) (eVar 1)) (gTp 2 (gsCons (gNm 3) (gsCons (gNm 4) gsNil))) f1_paid_at)
  (sRet (eVar 2))))
@[irreducible] def w_paid_at : DSp := wOf 5 t_paid_at
theorem w_paid_at_eq : w_paid_at = wOf 5 t_paid_at := by unfold w_paid_at; rfl

abbrev s_law_deal : Stmt := topS 10
def v1_law_deal : TD :=
  (e2 modD (eB intD (aCons (eB absD (aCons (eB intD (aCons (eVar 5) aNil)) aNil)) aNil)) (eVar 2))
def f1_law_deal : TDS :=
  (sSet 4 (e2 modD (eB intD (aCons (e2 addD (e2 addD (e2 mulD (eVar 4) (eC (.int 69621))) (e2 modD (eB intD (aCons (eVar 5) aNil)) (eC (.int 2147483563)))) (eC (.int 23))) aNil)) (eC (.int 2147483647))))
def q1_law_deal : TDT :=
  (tTru (e2 geD (eVar 5) (e2 powD (eC (.int 10)) (eC (.int 18)))))
def v2_law_deal : TD :=
  (eVar 5)
def t_law_deal : TDS :=
  (sSeq (sSet 2 (e2 mulD (e2 mulD (e2 mulD (e2 mulD (e2 mulD (e2 powD (eC (.int 10)) (eC (.int 64))) (e2 powD (eC (.int 10)) (eC (.int 64)))) (e2 powD (eC (.int 10)) (eC (.int 64)))) (e2 powD (eC (.int 10)) (eC (.int 64)))) (e2 powD (eC (.int 10)) (eC (.int 64)))) (e2 powD (eC (.int 10)) (eC (.int 64)))))
  (sSeq (sSet 3 (eLC (iSeq (eSlice (eVar 0) oNone (oSome (eC (.int 63))))) (gNm 5) tYesD v1_law_deal [5]))
  (sSeq (sSet 4 (e2 addD (eC (.int 70001)) (e2 mulD (eC (.int 7919)) (eVar 1))))
  (sSeq (sFor (iSeq (eVar 3)) (gNm 5) f1_law_deal)
  (sRet (eLst (aCons (eRev (eLC (iSeq (eVar 3)) (gNm 5) q1_law_deal v2_law_deal [5])) (aCons (eVar 4) aNil))))))))
@[irreducible] def w_law_deal : DSp := wOf 6 t_law_deal
theorem w_law_deal_eq : w_law_deal = wOf 6 t_law_deal := by unfold w_law_deal; rfl

abbrev s_law_any : Stmt := topS 11
def c1_law_any : TDT :=
  (tAndD (tTru (e2 gtD (eB lenD (aCons (e2 ixD (eVar 0) (eC (.int 0))) aNil)) (eC (.int 0)))) (tTru (e2 eqD (e2 ixD (e2 ixD (eVar 0) (eC (.int 0))) (e1 negD (eC (.int 1)))) (eC (.int 0)))))
def b1_law_any : TDS :=
  (sExpr (ePop (e2 ixD (eVar 0) (eC (.int 0)))))
def t_law_any : TDS :=
  (sSeq (sWhile c1_law_any b1_law_any)
  (sSeq (sIf (tTru (e2 gtD (eB lenD (aCons (e2 ixD (eVar 0) (eC (.int 0))) aNil)) (eC (.int 0))))
  (sSeq (sSet 2 (eB intD (aCons (ePop (e2 ixD (eVar 0) (eC (.int 0)))) aNil)))
  (sSeq (sExpr (eAppend (e2 ixD (eVar 0) (eC (.int 0))) (e2 divD (eVar 2) (eVar 1))))
  (sRet (e2 modD (eVar 2) (eVar 1)))))
  sNext)
  (sSeq (sSetIx (eVar 0) (eC (.int 1)) (e2 modD (eB intD (aCons (e2 addD (e2 mulD (e2 ixD (eVar 0) (eC (.int 1))) (eC (.int 48271))) (eC (.int 31))) aNil)) (eC (.int 2147483647))))
  (sRet (e2 modD (eB intD (aCons (e2 divD (e2 ixD (eVar 0) (eC (.int 1))) (eC (.int 64))) aNil)) (eVar 1))))))
@[irreducible] def w_law_any : DSp := wOf 3 t_law_any
theorem w_law_any_eq : w_law_any = wOf 3 t_law_any := by unfold w_law_any; rfl

abbrev s_law_of : Stmt := topS 12
def t_law_of : TDS :=
  (sRet (e2 ixD (eVar 1) (eCall w_law_any (aCons (eVar 0) (aCons (eB lenD (aCons (eVar 1) aNil)) aNil)))))
@[irreducible] def w_law_of : DSp := wOf 2 t_law_of
theorem w_law_of_eq : w_law_of = wOf 2 t_law_of := by unfold w_law_of; rfl

abbrev s_law_is_kind : Stmt := topS 13
def t_law_is_kind : TDS :=
  (sSeq (sIf (tTru (e1 isND (eVar 1)))
  (sRet (e1 isND (eVar 0)))
  sNext)
  (sSeq (sIf (tOrD (tTru (e1 (isBD true) (eVar 1))) (tTru (e1 (isBD false) (eVar 1))))
  (sRet (eIf (tTru (eVar 1)) (e1 (isBD true) (eVar 0)) (e1 (isBD false) (eVar 0))))
  sNext)
  (sSeq (sIf (tTru (e1 (isiD 3) (eVar 1)))
  (sRet (eAnd (e1 (isiD 3) (eVar 0)) (e2 eqD (eVar 0) (eVar 1))))
  sNext)
  (sRet (eAnd (e1 (isiD 2) (eVar 0)) (eAnd (eNot (e1 (isiD 1) (eVar 0))) (e2 eqD (eVar 0) (eVar 1))))))))
@[irreducible] def w_law_is_kind : DSp := wOf 2 t_law_is_kind
theorem w_law_is_kind_eq : w_law_is_kind = wOf 2 t_law_is_kind := by unfold w_law_is_kind; rfl

abbrev s_law_same : Stmt := topS 14
def f1_law_same : TDS :=
  (sExpr (eAppend (eVar 2) (eTup (aCons (e2 ixD (eVar 3) (eVar 5)) (aCons (e2 ixD (eVar 4) (eVar 5)) aNil)))))
def c1_law_same : TDT :=
  (tTru (e2 gtD (eB lenD (aCons (eVar 2) aNil)) (eC (.int 0))))
def b1_law_same : TDS :=
  (sSeq (sAsg (ePop (eVar 2)) (gTp 2 (gsCons (gNm 3) (gsCons (gNm 4) gsNil))))
  (sIf (tTru (e1 (isiD 4) (eVar 4)))
  (sSeq (sIf (tOrD (tNotD (tTru (e1 (isiD 4) (eVar 3)))) (tTru (e2 neD (eB lenD (aCons (eVar 3) aNil)) (eB lenD (aCons (eVar 4) aNil)))))
  (sRet (eC (.bl false)))
  sNext)
  (sFor (iRange1 (eB lenD (aCons (eVar 4) aNil))) (gNm 5) f1_law_same))
  (sIf (tOrD (tTru (e1 (isi3D 4 5 6) (eVar 3))) (tNotD (tTru (eCall w_law_is_kind (aCons (eVar 3) (aCons (eVar 4) aNil))))))
  (sRet (eC (.bl false)))
  sNext)))
def t_law_same : TDS :=
  (sSeq (sSet 2 (eLst (aCons (eTup (aCons (eVar 0) (aCons (eVar 1) aNil))) aNil)))
  (sSeq (sWhile c1_law_same b1_law_same)
  (sRet (eC (.bl true)))))
@[irreducible] def w_law_same : DSp := wOf 6 t_law_same
theorem w_law_same_eq : w_law_same = wOf 6 t_law_same := by unfold w_law_same; rfl

abbrev s_law_all : Stmt := topS 15
def q1_law_all : TDT :=
  (tNotD (tTru (eCall w_law_same (aCons (eVar 1) (aCons (eVar 2) aNil)))))
def v1_law_all : TD :=
  (eVar 1)
def t_law_all : TDS :=
  (sRet (e2 eqD (eB lenD (aCons (eLC (iSeq (eVar 0)) (gTp 2 (gsCons (gNm 1) (gsCons (gNm 2) gsNil))) q1_law_all v1_law_all [1, 2]) aNil)) (eC (.int 0))))
@[irreducible] def w_law_all : DSp := wOf 3 t_law_all
theorem w_law_all_eq : w_law_all = wOf 3 t_law_all := by unfold w_law_all; rfl

abbrev s_law_divisor : Stmt := topS 16
def c1_law_divisor : TDT :=
  (tTru (e2 neD (eVar 1) (eC (.int 0))))
def b1_law_divisor : TDS :=
  (sPar 0 1 (aCons (eVar 1) (aCons (e2 modD (eB intD (aCons (eVar 0) aNil)) (eVar 1)) aNil)))
def t_law_divisor : TDS :=
  (sSeq (sWhile c1_law_divisor b1_law_divisor)
  (sRet (eVar 0)))
@[irreducible] def w_law_divisor : DSp := wOf 2 t_law_divisor
theorem w_law_divisor_eq : w_law_divisor = wOf 2 t_law_divisor := by unfold w_law_divisor; rfl

abbrev s_law_ratio : Stmt := topS 17
def t_law_ratio : TDS :=
  (sSeq (sIf (tTru (e2 ltD (eVar 1) (eC (.int 0))))
  (sPar 0 1 (aCons (e2 subD (eC (.int 0)) (eVar 0)) (aCons (e2 subD (eC (.int 0)) (eVar 1)) aNil)))
  sNext)
  (sSeq (sSet 2 (eCall w_law_divisor (aCons (eB absD (aCons (eVar 0) aNil)) (aCons (eVar 1) aNil))))
  (sRet (eTup (aCons (eB intD (aCons (e2 divD (eVar 0) (eVar 2)) aNil)) (aCons (eB intD (aCons (e2 divD (eVar 1) (eVar 2)) aNil)) aNil))))))
@[irreducible] def w_law_ratio : DSp := wOf 3 t_law_ratio
theorem w_law_ratio_eq : w_law_ratio = wOf 3 t_law_ratio := by unfold w_law_ratio; rfl

abbrev s_law_plus : Stmt := topS 18
def t_law_plus : TDS :=
  (sRet (eCall w_law_ratio (aCons (e2 addD (e2 mulD (e2 ixD (eVar 0) (eC (.int 0))) (e2 ixD (eVar 1) (eC (.int 1)))) (e2 mulD (e2 ixD (eVar 1) (eC (.int 0))) (e2 ixD (eVar 0) (eC (.int 1))))) (aCons (e2 mulD (e2 ixD (eVar 0) (eC (.int 1))) (e2 ixD (eVar 1) (eC (.int 1)))) aNil))))
@[irreducible] def w_law_plus : DSp := wOf 2 t_law_plus
theorem w_law_plus_eq : w_law_plus = wOf 2 t_law_plus := by unfold w_law_plus; rfl

abbrev s_law_times : Stmt := topS 19
def t_law_times : TDS :=
  (sRet (eCall w_law_ratio (aCons (e2 mulD (e2 ixD (eVar 0) (eC (.int 0))) (e2 ixD (eVar 1) (eC (.int 0)))) (aCons (e2 mulD (e2 ixD (eVar 0) (eC (.int 1))) (e2 ixD (eVar 1) (eC (.int 1)))) aNil))))
@[irreducible] def w_law_times : DSp := wOf 2 t_law_times
theorem w_law_times_eq : w_law_times = wOf 2 t_law_times := by unfold w_law_times; rfl

abbrev s_law_price : Stmt := topS 20
def t_law_price : TDS :=
  (sRet (eCall w_law_of (aCons (eVar 0) (aCons (eLst (aCons (eTup (aCons (eC (.int 0)) (aCons (eC (.int 1)) aNil))) (aCons (eTup (aCons (eC (.int 1)) (aCons (eC (.int 1)) aNil))) (aCons (eTup (aCons (eC (.int 2)) (aCons (eC (.int 1)) aNil))) (aCons (eTup (aCons (eC (.int 3)) (aCons (eC (.int 1)) aNil))) (aCons (eTup (aCons (eC (.int 5)) (aCons (eC (.int 1)) aNil))) (aCons (eTup (aCons (eC (.int 1)) (aCons (eC (.int 2)) aNil))) (aCons (eTup (aCons (eC (.int 3)) (aCons (eC (.int 2)) aNil))) (aCons (eTup (aCons (eC (.int 2)) (aCons (eC (.int 3)) aNil))) (aCons (eTup (aCons (eC (.int 7)) (aCons (eC (.int 4)) aNil))) (aCons (eTup (aCons (eC (.int 11)) (aCons (eC (.int 12)) aNil))) (aCons (eTup (aCons (eC (.int 40)) (aCons (eC (.int 1)) aNil))) aNil)))))))))))) aNil))))
@[irreducible] def w_law_price : DSp := wOf 1 t_law_price
theorem w_law_price_eq : w_law_price = wOf 1 t_law_price := by unfold w_law_price; rfl

abbrev s_law_low_price : Stmt := topS 21
def t_law_low_price : TDS :=
  (sRet (eCall w_law_of (aCons (eVar 0) (aCons (eLst (aCons (eTup (aCons (eC (.int 0)) (aCons (eC (.int 1)) aNil))) (aCons (eTup (aCons (eC (.int 0)) (aCons (eC (.int 1)) aNil))) (aCons (eTup (aCons (eC (.int 1)) (aCons (eC (.int 1)) aNil))) (aCons (eTup (aCons (eC (.int 2)) (aCons (eC (.int 1)) aNil))) (aCons (eTup (aCons (eC (.int 3)) (aCons (eC (.int 1)) aNil))) (aCons (eTup (aCons (eC (.int 1)) (aCons (eC (.int 2)) aNil))) (aCons (eTup (aCons (eC (.int 3)) (aCons (eC (.int 2)) aNil))) aNil)))))))) aNil))))
@[irreducible] def w_law_low_price : DSp := wOf 1 t_law_low_price
theorem w_law_low_price_eq : w_law_low_price = wOf 1 t_law_low_price := by unfold w_law_low_price; rfl

abbrev s_law_paid : Stmt := topS 22
def f1_law_paid : TDS :=
  (sSet 2 (eCall w_law_plus (aCons (eVar 2) (aCons (eCall w_law_times (aCons (eTup (aCons (e2 ixD (e2 ixD (eVar 0) (eC (.int 1))) (eVar 3)) (aCons (eC (.int 1)) aNil))) (aCons (e2 ixD (eVar 1) (eVar 3)) aNil))) aNil))))
def t_law_paid : TDS :=
  (sSeq (sSet 2 (e2 ixD (eVar 0) (eC (.int 0))))
  (sSeq (sFor (iRange1 (eB lenD (aCons (eVar 1) aNil))) (gNm 3) f1_law_paid)
  (sRet (eVar 2))))
@[irreducible] def w_law_paid : DSp := wOf 4 t_law_paid
theorem w_law_paid_eq : w_law_paid = wOf 4 t_law_paid := by unfold w_law_paid; rfl

abbrev s_law_drawn_pay : Stmt := topS 23
def v1_law_drawn_pay : TD :=
  (eCall w_law_any (aCons (eVar 0) (aCons (eVar 2) aNil)))
def t_law_drawn_pay : TDS :=
  (sRet (eTup (aCons (eCall w_law_low_price (aCons (eVar 0) aNil)) (aCons (eB tupleD (aCons (eLC (iRange1 (eVar 1)) (gNm 3) tYesD v1_law_drawn_pay [3]) aNil)) aNil))))
@[irreducible] def w_law_drawn_pay : DSp := wOf 4 t_law_drawn_pay
theorem w_law_drawn_pay_eq : w_law_drawn_pay = wOf 4 t_law_drawn_pay := by unfold w_law_drawn_pay; rfl

abbrev s_law_drawn_pays : Stmt := topS 24
def v1_law_drawn_pays : TD :=
  (eCall w_law_drawn_pay (aCons (eVar 0) (aCons (eVar 1) (aCons (eVar 3) aNil))))
def t_law_drawn_pays : TDS :=
  (sRet (eLC (iRange1 (eVar 2)) (gNm 4) tYesD v1_law_drawn_pays [4]))
@[irreducible] def w_law_drawn_pays : DSp := wOf 5 t_law_drawn_pays
theorem w_law_drawn_pays_eq : w_law_drawn_pays = wOf 5 t_law_drawn_pays := by unfold w_law_drawn_pays; rfl

abbrev s_law_drawn_weights : Stmt := topS 25
def v1_law_drawn_weights : TD :=
  (eCall w_law_any (aCons (eVar 0) (aCons (eC (.int 4)) aNil)))
def v2_law_drawn_weights : TD :=
  (eCall w_law_ratio (aCons (eVar 4) (aCons (eB sumD (aCons (eVar 2) aNil)) aNil)))
def t_law_drawn_weights : TDS :=
  (sSeq (sSet 2 (eLC (iRange1 (eVar 1)) (gNm 3) tYesD v1_law_drawn_weights [3]))
  (sSeq (sSetIx (eVar 2) (eCall w_law_any (aCons (eVar 0) (aCons (eVar 1) aNil))) (e2 addD (eC (.int 1)) (eCall w_law_any (aCons (eVar 0) (aCons (eC (.int 3)) aNil)))))
  (sRet (eB tupleD (aCons (eLC (iSeq (eVar 2)) (gNm 4) tYesD v2_law_drawn_weights [4]) aNil)))))
@[irreducible] def w_law_drawn_weights : DSp := wOf 5 t_law_drawn_weights
theorem w_law_drawn_weights_eq : w_law_drawn_weights = wOf 5 t_law_drawn_weights := by unfold w_law_drawn_weights; rfl

abbrev s_law : Stmt := topS 26
def v1_law : TD :=
  (eCall w_law_price (aCons (eVar 1) aNil))
def v2_law : TD :=
  (eCall w_law_plus (aCons (e2 ixD (eVar 13) (eVar 7)) (aCons (eCall w_law_times (aCons (e2 ixD (eVar 10) (eVar 5)) (aCons (eTup (aCons (e2 ixD (e2 ixD (e2 ixD (eVar 4) (eVar 5)) (eC (.int 1))) (eVar 7)) (aCons (eC (.int 1)) aNil))) aNil))) aNil)))
def f1_law : TDS :=
  (sSeq (sSet 12 (eCall w_law_plus (aCons (eVar 12) (aCons (eCall w_law_times (aCons (e2 ixD (eVar 10) (eVar 5)) (aCons (e2 ixD (e2 ixD (eVar 4) (eVar 5)) (eC (.int 0))) aNil))) aNil))))
  (sSet 13 (eLC (iRange1 (eVar 8)) (gNm 7) tYesD v2_law [7])))
def f2_law : TDS :=
  (sSet 14 (eCall w_law_plus (aCons (eVar 14) (aCons (eCall w_law_times (aCons (e2 ixD (eVar 13) (eVar 7)) (aCons (e2 ixD (eVar 11) (eVar 7)) aNil))) aNil))))
def f3_law : TDS :=
  (sSeq (sSet 16 (eCall w_law_paid (aCons (e2 ixD (eVar 4) (eVar 5)) (aCons (eVar 11) aNil))))
  (sSeq (sSet 15 (eCall w_law_plus (aCons (eVar 15) (aCons (eCall w_law_times (aCons (e2 ixD (eVar 10) (eVar 5)) (aCons (eVar 16) aNil))) aNil))))
  (sSet 2 (e2 addD (eVar 2) (eLst (aCons (eTup (aCons (eCall w_paid_at (aCons (e2 ixD (eVar 4) (eVar 5)) (aCons (eVar 11) aNil))) (aCons (eVar 16) aNil))) (aCons (eTup (aCons (eCallK w_paid_at [1, 0] aNil (aCons (eVar 11) (aCons (e2 ixD (eVar 4) (eVar 5)) aNil))) (aCons (eVar 16) aNil))) aNil)))))))
def f4_law : TDS :=
  (sSeq (sPar 8 9 (aCons (eCall w_law_any (aCons (eVar 1) (aCons (eC (.int 5)) aNil))) (aCons (e2 addD (eC (.int 1)) (eCall w_law_any (aCons (eVar 1) (aCons (eC (.int 5)) aNil)))) aNil)))
  (sSeq (sSet 4 (eB tupleD (aCons (eCall w_law_drawn_pays (aCons (eVar 1) (aCons (eVar 8) (aCons (eVar 9) (aCons (eC (.int 9)) aNil))))) aNil)))
  (sSeq (sAsg (eTup (aCons (eCall w_law_drawn_weights (aCons (eVar 1) (aCons (eVar 9) aNil))) (aCons (eB tupleD (aCons (eLC (iRange1 (eVar 8)) (gNm 5) tYesD v1_law [5]) aNil)) aNil))) (gTp 2 (gsCons (gNm 10) (gsCons (gNm 11) gsNil))))
  (sSeq (sAsg (eTup (aCons (eTup (aCons (eC (.int 0)) (aCons (eC (.int 1)) aNil))) (aCons (e2 mulD (eLst (aCons (eTup (aCons (eC (.int 0)) (aCons (eC (.int 1)) aNil))) aNil)) (eVar 8)) aNil))) (gTp 2 (gsCons (gNm 12) (gsCons (gNm 13) gsNil))))
  (sSeq (sFor (iRange1 (eVar 9)) (gNm 5) f1_law)
  (sSeq (sSet 6 (eIf (tTru (e2 gtD (eVar 3) (eC (.int 0)))) (eCall w_mixed (aCons (eVar 10) (aCons (eVar 4) aNil))) (eCallK w_mixed [1, 0] aNil (aCons (eVar 4) (aCons (eVar 10) aNil)))))
  (sSeq (sExpr (eAppend (eVar 2) (eTup (aCons (eVar 6) (aCons (eTup (aCons (eVar 12) (aCons (eB tupleD (aCons (eVar 13) aNil)) aNil))) aNil)))))
  (sSeq (sPar 14 15 (aCons (eVar 12) (aCons (eTup (aCons (eC (.int 0)) (aCons (eC (.int 1)) aNil))) aNil)))
  (sSeq (sFor (iRange1 (eVar 8)) (gNm 7) f2_law)
  (sSeq (sFor (iRange1 (eVar 9)) (gNm 5) f3_law)
  (sExpr (eAppend (eVar 2) (eTup (aCons (eVar 15) (aCons (eVar 14) aNil)))))))))))))))
def t_law : TDS :=
  (sSeq (sSet 1 (eCall w_law_deal (aCons (eVar 0) (aCons (eC (.int 822)) aNil))))
  (sSeq (sSet 2 (eLst aNil))
  (sSeq (sFor (iRange1 (eC (.int 9))) (gNm 3) f4_law)
  (sSeq (sSet 2 (e2 addD (eVar 2) (eLst (aCons (eTup (aCons (eCall w_mixed (aCons (eTup (aCons (eTup (aCons (eC (.int 1)) (aCons (eC (.int 2)) aNil))) (aCons (eTup (aCons (eC (.int 1)) (aCons (eC (.int 2)) aNil))) aNil))) (aCons (eTup (aCons (eTup (aCons (eTup (aCons (eC (.int 0)) (aCons (eC (.int 1)) aNil))) (aCons (eTup (aCons (eC (.int 2)) (aCons (eC (.int 0)) aNil))) aNil))) (aCons (eTup (aCons (eTup (aCons (eC (.int 1)) (aCons (eC (.int 1)) aNil))) (aCons (eTup (aCons (eC (.int 0)) (aCons (eC (.int 2)) aNil))) aNil))) aNil))) aNil))) (aCons (eTup (aCons (eTup (aCons (eC (.int 1)) (aCons (eC (.int 2)) aNil))) (aCons (eTup (aCons (eTup (aCons (eC (.int 1)) (aCons (eC (.int 1)) aNil))) (aCons (eTup (aCons (eC (.int 1)) (aCons (eC (.int 1)) aNil))) aNil))) aNil))) aNil))) aNil))))
  (sRet (eCall w_law_all (aCons (e2 addD (eVar 2) (eLst (aCons (eTup (aCons (eCall w_paid_at (aCons (eTup (aCons (eTup (aCons (eC (.int 1)) (aCons (eC (.int 2)) aNil))) (aCons (eTup (aCons (eC (.int 3)) aNil)) aNil))) (aCons (eTup (aCons (eTup (aCons (eC (.int 1)) (aCons (eC (.int 3)) aNil))) aNil)) aNil))) (aCons (eTup (aCons (eC (.int 3)) (aCons (eC (.int 2)) aNil))) aNil))) (aCons (eTup (aCons (eCall w_paid_at (aCons (eTup (aCons (eTup (aCons (eC (.int 1)) (aCons (eC (.int 2)) aNil))) (aCons (eTup aNil) aNil))) (aCons (eTup aNil) aNil))) (aCons (eTup (aCons (eC (.int 1)) (aCons (eC (.int 2)) aNil))) aNil))) aNil)))) aNil)))))))
@[irreducible] def w_law : DSp := wOf 17 t_law
theorem w_law_eq : w_law = wOf 17 t_law := by unfold w_law; rfl

/-! ### what the top has written -/
def dd_common_divisor : He.DefD := ⟨("common_divisor", none), "common_divisor", "common_divisor", defArgs s_common_divisor, defBody s_common_divisor, defScope s_common_divisor, [], []⟩
def dd_ratio : He.DefD := ⟨("ratio", none), "ratio", "ratio", defArgs s_ratio, defBody s_ratio, defScope s_ratio, [], []⟩
def dd_ratio_plus : He.DefD := ⟨("ratio_plus", none), "ratio_plus", "ratio_plus", defArgs s_ratio_plus, defBody s_ratio_plus, defScope s_ratio_plus, [], []⟩
def dd_ratio_times : He.DefD := ⟨("ratio_times", none), "ratio_times", "ratio_times", defArgs s_ratio_times, defBody s_ratio_times, defScope s_ratio_times, [], []⟩
def dd_mixed : He.DefD := ⟨("mixed", none), "mixed", "mixed", defArgs s_mixed, defBody s_mixed, defScope s_mixed, [], []⟩
def dd_paid_at : He.DefD := ⟨("paid_at", none), "paid_at", "paid_at", defArgs s_paid_at, defBody s_paid_at, defScope s_paid_at, [], []⟩
def dd_law_deal : He.DefD := ⟨("_law_deal", none), "_law_deal", "_law_deal", defArgs s_law_deal, defBody s_law_deal, defScope s_law_deal, [], []⟩
def dd_law_any : He.DefD := ⟨("_law_any", none), "_law_any", "_law_any", defArgs s_law_any, defBody s_law_any, defScope s_law_any, [], []⟩
def dd_law_of : He.DefD := ⟨("_law_of", none), "_law_of", "_law_of", defArgs s_law_of, defBody s_law_of, defScope s_law_of, [], []⟩
def dd_law_is_kind : He.DefD := ⟨("_law_is_kind", none), "_law_is_kind", "_law_is_kind", defArgs s_law_is_kind, defBody s_law_is_kind, defScope s_law_is_kind, [], []⟩
def dd_law_same : He.DefD := ⟨("_law_same", none), "_law_same", "_law_same", defArgs s_law_same, defBody s_law_same, defScope s_law_same, [], []⟩
def dd_law_all : He.DefD := ⟨("_law_all", none), "_law_all", "_law_all", defArgs s_law_all, defBody s_law_all, defScope s_law_all, [], []⟩
def dd_law_divisor : He.DefD := ⟨("_law_divisor", none), "_law_divisor", "_law_divisor", defArgs s_law_divisor, defBody s_law_divisor, defScope s_law_divisor, [], []⟩
def dd_law_ratio : He.DefD := ⟨("_law_ratio", none), "_law_ratio", "_law_ratio", defArgs s_law_ratio, defBody s_law_ratio, defScope s_law_ratio, [], []⟩
def dd_law_plus : He.DefD := ⟨("_law_plus", none), "_law_plus", "_law_plus", defArgs s_law_plus, defBody s_law_plus, defScope s_law_plus, [], []⟩
def dd_law_times : He.DefD := ⟨("_law_times", none), "_law_times", "_law_times", defArgs s_law_times, defBody s_law_times, defScope s_law_times, [], []⟩
def dd_law_price : He.DefD := ⟨("_law_price", none), "_law_price", "_law_price", defArgs s_law_price, defBody s_law_price, defScope s_law_price, [], []⟩
def dd_law_low_price : He.DefD := ⟨("_law_low_price", none), "_law_low_price", "_law_low_price", defArgs s_law_low_price, defBody s_law_low_price, defScope s_law_low_price, [], []⟩
def dd_law_paid : He.DefD := ⟨("_law_paid", none), "_law_paid", "_law_paid", defArgs s_law_paid, defBody s_law_paid, defScope s_law_paid, [], []⟩
def dd_law_drawn_pay : He.DefD := ⟨("_law_drawn_pay", none), "_law_drawn_pay", "_law_drawn_pay", defArgs s_law_drawn_pay, defBody s_law_drawn_pay, defScope s_law_drawn_pay, [], []⟩
def dd_law_drawn_pays : He.DefD := ⟨("_law_drawn_pays", none), "_law_drawn_pays", "_law_drawn_pays", defArgs s_law_drawn_pays, defBody s_law_drawn_pays, defScope s_law_drawn_pays, [], []⟩
def dd_law_drawn_weights : He.DefD := ⟨("_law_drawn_weights", none), "_law_drawn_weights", "_law_drawn_weights", defArgs s_law_drawn_weights, defBody s_law_drawn_weights, defScope s_law_drawn_weights, [], []⟩
def dd_law : He.DefD := ⟨("law", none), "law", "law", defArgs s_law, defBody s_law, defScope s_law, [], []⟩
def fns : List He.DefD := [dd_common_divisor, dd_ratio, dd_ratio_plus, dd_ratio_times, dd_mixed, dd_paid_at, dd_law_deal, dd_law_any, dd_law_of, dd_law_is_kind, dd_law_same, dd_law_all, dd_law_divisor, dd_law_ratio, dd_law_plus, dd_law_times, dd_law_price, dd_law_low_price, dd_law_paid, dd_law_drawn_pay, dd_law_drawn_pays, dd_law_drawn_weights, dd_law]
def fas : List He.Fa := [.free "abs", .glo "common_divisor", .glo "ratio", .glo "ratio_plus", .glo "ratio_times", .free "zip", .free "tuple", .glo "mixed", .glo "paid_at", .free "int", .glo "_law_deal", .free "len", .glo "_law_any", .glo "_law_of", .free "isinstance", .free "str", .free "bool", .glo "_law_is_kind", .free "range", .free "list", .free "dict", .glo "_law_same", .glo "_law_all", .glo "_law_divisor", .glo "_law_ratio", .glo "_law_plus", .glo "_law_times", .glo "_law_price", .glo "_law_low_price", .glo "_law_paid", .glo "_law_drawn_pay", .glo "_law_drawn_pays", .free "sum", .glo "_law_drawn_weights", .glo "law"]
def css : List (Str × D) := [("ZERO", c_ZERO)]
abbrev TX (K : PySem.W.Frag) (mg : Str → Option Value) : Prop := Tx fas fns css K mg
/-! ### each def keeps its reading -/
section
variable {P : Program} {w : World} {K : PySem.W.Frag} {mg : Str → Option Value} {base : Heap}
theorem sc_common_divisor : FnScope ["one", "other"] ["one", "other"] (defScope s_common_divisor) := ⟨rfl, rfl, rfl, by decide +kernel, rfl, by decide +kernel, by decide +kernel⟩
theorem ok_common_divisor (T : TX K mg) : DefOk P w K mg base "common_divisor" s_common_divisor 1 ["one", "other"] 2 w_common_divisor := by
  rw [w_common_divisor_eq]
  refine T.defD (T.glo 1) 0 rfl sc_common_divisor rfl rfl (fun _ _ _ _ _ _ us hl => match us, hl with | [_, _], _ => rfl) fun cdv A outer s H E hr => ?_
  exact (ds_cons (ds_par (i := 0) (j := 1) sc_common_divisor.nd rfl (da_cons (de_callB call_abs br_abs (T.free 0) (by decide +kernel) (da_cons (de_var 0) da_nil)) (da_cons (de_callB call_abs br_abs (T.free 0) (by decide +kernel) (da_cons (de_var 1) da_nil)) da_nil)))
    (ds_cons (ds_while poF (dt_ne (de_var 1) de_int)
    (ds_one (ds_par (i := 0) (j := 1) sc_common_divisor.nd rfl (da_cons (de_var 1) (da_cons (de_mod (de_var 0) (de_var 1)) da_nil)))))
    (ds_one (ds_ret (de_var 0)))))

theorem sc_ratio : FnScope ["top", "bottom", "both"] ["top", "bottom"] (defScope s_ratio) := ⟨rfl, rfl, rfl, by decide +kernel, rfl, by decide +kernel, by decide +kernel⟩
theorem ok_ratio (T : TX K mg) : DefOk P w K mg base "ratio" s_ratio 2 ["top", "bottom"] 2 w_ratio := by
  rw [w_ratio_eq]
  refine T.defD (T.glo 2) 1 rfl sc_ratio rfl rfl (fun _ _ _ _ _ _ us hl => match us, hl with | [_, _], _ => rfl) fun cdv A outer s H E hr => ?_
  exact (ds_cons (ds_if (dt_lt (de_var 1) de_int)
    (ds_one (ds_par (i := 0) (j := 1) sc_ratio.nd rfl (da_cons (de_neg (de_var 0)) (da_cons (de_neg (de_var 1)) da_nil))))
    ds_nil)
    (ds_cons (ds_set (i := 2) sc_ratio.nd (de_fn (ok_common_divisor T) (hr.mono (by decide)) tkF (da_cons (de_var 0) (da_cons (de_var 1) da_nil))))
    (ds_one (ds_ret (de_tup (da_cons (de_div (de_var 0) (de_var 2)) (da_cons (de_div (de_var 1) (de_var 2)) da_nil)))))))

theorem sc_ratio_plus : FnScope ["one", "other"] ["one", "other"] (defScope s_ratio_plus) := ⟨rfl, rfl, rfl, by decide +kernel, rfl, by decide +kernel, by decide +kernel⟩
theorem ok_ratio_plus (T : TX K mg) : DefOk P w K mg base "ratio_plus" s_ratio_plus 3 ["one", "other"] 2 w_ratio_plus := by
  rw [w_ratio_plus_eq]
  refine T.defD (T.glo 3) 2 rfl sc_ratio_plus rfl rfl (fun _ _ _ _ _ _ us hl => match us, hl with | [_, _], _ => rfl) fun cdv A outer s H E hr => ?_
  exact (ds_one (ds_ret (de_fn (ok_ratio T) (hr.mono (by decide)) tkF (da_cons (de_add (de_mul (de_ix (de_var 0) de_int) (de_ix (de_var 1) de_int)) (de_mul (de_ix (de_var 1) de_int) (de_ix (de_var 0) de_int))) (da_cons (de_mul (de_ix (de_var 0) de_int) (de_ix (de_var 1) de_int)) da_nil)))))

theorem sc_ratio_times : FnScope ["one", "other"] ["one", "other"] (defScope s_ratio_times) := ⟨rfl, rfl, rfl, by decide +kernel, rfl, by decide +kernel, by decide +kernel⟩
theorem ok_ratio_times (T : TX K mg) : DefOk P w K mg base "ratio_times" s_ratio_times 3 ["one", "other"] 2 w_ratio_times := by
  rw [w_ratio_times_eq]
  refine T.defD (T.glo 4) 3 rfl sc_ratio_times rfl rfl (fun _ _ _ _ _ _ us hl => match us, hl with | [_, _], _ => rfl) fun cdv A outer s H E hr => ?_
  exact (ds_one (ds_ret (de_fn (ok_ratio T) (hr.mono (by decide)) tkF (da_cons (de_mul (de_ix (de_var 0) de_int) (de_ix (de_var 1) de_int)) (da_cons (de_mul (de_ix (de_var 0) de_int) (de_ix (de_var 1) de_int)) da_nil)))))

theorem sc_mixed : FnScope ["weights", "pays", "price", "counts", "weight", "cost", "numbers", "_", "one", "number"] ["weights", "pays"] (defScope s_mixed) := ⟨rfl, rfl, rfl, by decide +kernel, rfl, by decide +kernel, by decide +kernel⟩
theorem ok_mixed (T : TX K mg) : DefOk P w K mg base "mixed" s_mixed 4 ["weights", "pays"] 2 w_mixed := by
  rw [w_mixed_eq]
  refine T.defD (T.glo 7) 4 rfl sc_mixed rfl rfl (fun _ _ _ _ _ _ us hl => match us, hl with | [_, _], _ => rfl) fun cdv A outer s H E hr => ?_
  exact (ds_cons (ds_par (i := 2) (j := 3) sc_mixed.nd rfl (da_cons (de_con (T.con 0)) (da_cons (de_lc (own := [("_", 7)]) rfl sc_mixed.nd (by dsimp only [cxOf, envOfC, compEnvC]; decide +kernel) (di_seq (de_ix (de_ix (de_var 1) de_int) de_int)) (fun _ _ _ _ _ => (dg_name sc_mixed.nd (by decide))) (fun _ _ _ _ _ => dts_nil) (fun _ _ _ _ _ => (de_con (T.con 0)))) da_nil)))
    (ds_cons (ds_for (vs := [4, 5, 6]) poF rfl (di_zip (T.free 5) (de_var 0) (de_var 1)) (dg_tup rfl (dgs_cons (dg_name sc_mixed.nd (by decide)) (dgs_cons (dg_tup rfl (dgs_cons (dg_name sc_mixed.nd (by decide)) (dgs_cons (dg_name sc_mixed.nd (by decide)) dgs_nil))) dgs_nil)))
    (ds_cons (ds_set (i := 2) sc_mixed.nd (de_fn (ok_ratio_plus T) (hr.mono (by decide)) tkF (da_cons (de_var 2) (da_cons (de_fn (ok_ratio_times T) (hr.mono (by decide)) tkF (da_cons (de_var 4) (da_cons (de_var 5) da_nil))) da_nil))))
    (ds_one (ds_setLc (i := 3) (own := [("one", 8), ("number", 9)]) rfl sc_mixed.nd (by dsimp only [cxOf, envOfC, compEnvC]; decide +kernel) (by decide +kernel) (di_zip (T.free 5) (de_var 3) (de_var 6)) (fun _ _ _ _ _ => (dg_tup rfl (dgs_cons (dg_name sc_mixed.nd (by decide)) (dgs_cons (dg_name sc_mixed.nd (by decide)) dgs_nil)))) (fun _ _ _ _ _ => dts_nil) (fun _ _ _ _ _ => (de_fn (ok_ratio_plus T) (hr.mono (by decide)) takes0 (da_cons (de_var 8) (da_cons (de_fn (ok_ratio_times T) (hr.mono (by decide)) takes0 (da_cons (de_var 4) (da_cons (de_tup (da_cons (de_var 9) (da_cons de_int da_nil))) da_nil))) da_nil))))))))
    (ds_one (ds_ret (de_tup (da_cons (de_var 2) (da_cons (de_callTy call_tuple_of br_tuple (T.free 6) PyProof.Rows.boot_tuple (da_cons (de_var 3) da_nil)) da_nil)))))))

theorem sc_paid_at : FnScope ["pay", "prices", "found", "number", "price"] ["pay", "prices"] (defScope s_paid_at) := ⟨rfl, rfl, rfl, by decide +kernel, rfl, by decide +kernel, by decide +kernel⟩
theorem ok_paid_at (T : TX K mg) : DefOk P w K mg base "paid_at" s_paid_at 4 ["pay", "prices"] 2 w_paid_at := by
  rw [w_paid_at_eq]
  refine T.defD (T.glo 8) 5 rfl sc_paid_at rfl rfl (fun _ _ _ _ _ _ us hl => match us, hl with | [_, _], _ => rfl) fun cdv A outer s H E hr => ?_
  exact (ds_cons (ds_set (i := 2) sc_paid_at.nd (de_ix (de_var 0) de_int))
    (ds_cons (ds_for (vs := [3, 4]) poF rfl (di_zip (T.free 5) (de_ix (de_var 0) de_int) (de_var 1)) (dg_tup rfl (dgs_cons (dg_name sc_paid_at.nd (by decide)) (dgs_cons (dg_name sc_paid_at.nd (by decide)) dgs_nil)))
    (ds_one (ds_set (i := 2) sc_paid_at.nd (de_fn (ok_ratio_plus T) (hr.mono (by decide)) tkF (da_cons (de_var 2) (da_cons (de_fn (ok_ratio_times T) (hr.mono (by decide)) tkF (da_cons (de_tup (da_cons (de_var 3) (da_cons de_int da_nil))) (da_cons (de_var 4) da_nil))) da_nil))))))
    (ds_one (ds_ret (de_var 2)))))

theorem sc_law_deal : FnScope ["script", "salt", "most", "cells", "mix", "cell"] ["script", "salt"] (defScope s_law_deal) := ⟨rfl, rfl, rfl, by decide +kernel, rfl, by decide +kernel, by decide +kernel⟩
theorem ok_law_deal (T : TX K mg) : DefOk P w K mg base "_law_deal" s_law_deal 1 ["script", "salt"] 2 w_law_deal := by
  rw [w_law_deal_eq]
  refine T.defD (T.glo 10) 6 rfl sc_law_deal rfl rfl (fun _ _ _ _ _ _ us hl => match us, hl with | [_, _], _ => rfl) fun cdv A outer s H E hr => ?_
  exact (ds_cons (ds_set (i := 2) sc_law_deal.nd (de_mul (de_mul (de_mul (de_mul (de_mul (de_pow de_int de_int) (de_pow de_int de_int)) (de_pow de_int de_int)) (de_pow de_int de_int)) (de_pow de_int de_int)) (de_pow de_int de_int)))
    (ds_cons (ds_setLc (i := 3) (own := [("cell", 5)]) rfl sc_law_deal.nd (by dsimp only [cxOf, envOfC, compEnvC]; decide +kernel) (by decide +kernel) (di_seq (de_slice (de_var 0) do_none (do_some de_int))) (fun _ _ _ _ _ => (dg_name sc_law_deal.nd (by decide))) (fun _ _ _ _ _ => dts_nil) (fun _ _ _ _ _ => (de_mod (de_callTy call_int1 br_int (T.free 9) PyProof.Rows.boot_int (da_cons (de_callB call_abs br_abs (T.free 0) (by decide +kernel) (da_cons (de_callTy call_int1 br_int (T.free 9) PyProof.Rows.boot_int (da_cons (de_var 5) da_nil)) da_nil)) da_nil)) (de_var 2))))
    (ds_cons (ds_set (i := 4) sc_law_deal.nd (de_add de_int (de_mul de_int (de_var 1))))
    (ds_cons (ds_for (vs := [5]) poF rfl (di_seq (de_var 3)) (dg_name sc_law_deal.nd (by decide))
    (ds_one (ds_set (i := 4) sc_law_deal.nd (de_mod (de_callTy call_int1 br_int (T.free 9) PyProof.Rows.boot_int (da_cons (de_add (de_add (de_mul (de_var 4) de_int) (de_mod (de_callTy call_int1 br_int (T.free 9) PyProof.Rows.boot_int (da_cons (de_var 5) da_nil)) de_int)) de_int) da_nil)) de_int))))
    (ds_one (ds_ret (de_lst (da_cons (de_rev (de_lc (own := [("cell", 5)]) rfl sc_law_deal.nd (by dsimp only [cxOf, envOfC, compEnvC]; decide +kernel) (di_seq (de_var 3)) (fun _ _ _ _ _ => (dg_name sc_law_deal.nd (by decide))) (fun _ _ _ _ _ => (dts_one (dt_ge (de_var 5) (de_pow de_int de_int)))) (fun _ _ _ _ _ => (de_var 5)))) (da_cons (de_var 4) da_nil)))))))))

theorem sc_law_any : FnScope ["deal", "bound", "rest"] ["deal", "bound"] (defScope s_law_any) := ⟨rfl, rfl, rfl, by decide +kernel, rfl, by decide +kernel, by decide +kernel⟩
theorem ok_law_any (T : TX K mg) : DefOk P w K mg base "_law_any" s_law_any 1 ["deal", "bound"] 2 w_law_any := by
  rw [w_law_any_eq]
  refine T.defD (T.glo 12) 7 rfl sc_law_any rfl rfl (fun _ _ _ _ _ _ us hl => match us, hl with | [_, _], _ => rfl) fun cdv A outer s H E hr => ?_
  exact (ds_cons (ds_while poF (L2.PW.pt (dw_and (dt_gt (de_callB call_len br_len (T.free 11) PySem.boot_len (da_cons (de_ix (de_var 0) de_int) da_nil)) de_int) (pw_and1 (dt_eq (de_ix (de_ix (de_var 0) de_int) (de_neg de_int)) de_int))))
    (ds_one (ds_expr (de_pop (de_ix (de_var 0) de_int)))))
    (ds_cons (ds_if (dt_gt (de_callB call_len br_len (T.free 11) PySem.boot_len (da_cons (de_ix (de_var 0) de_int) da_nil)) de_int)
    (ds_cons (ds_set (i := 2) sc_law_any.nd (de_callTy call_int1 br_int (T.free 9) PyProof.Rows.boot_int (da_cons (de_pop (de_ix (de_var 0) de_int)) da_nil)))
    (ds_cons (ds_expr (de_append (de_ix (de_var 0) de_int) (de_div (de_var 2) (de_var 1))))
    (ds_one (ds_ret (de_mod (de_var 2) (de_var 1))))))
    ds_nil)
    (ds_cons (ds_setIx (de_mod (de_callTy call_int1 br_int (T.free 9) PyProof.Rows.boot_int (da_cons (de_add (de_mul (de_ix (de_var 0) de_int) de_int) de_int) da_nil)) de_int) (de_var 0) de_int)
    (ds_one (ds_ret (de_mod (de_callTy call_int1 br_int (T.free 9) PyProof.Rows.boot_int (da_cons (de_div (de_ix (de_var 0) de_int) de_int) da_nil)) (de_var 1)))))))

theorem sc_law_of : FnScope ["deal", "some"] ["deal", "some"] (defScope s_law_of) := ⟨rfl, rfl, rfl, by decide +kernel, rfl, by decide +kernel, by decide +kernel⟩
theorem ok_law_of (T : TX K mg) : DefOk P w K mg base "_law_of" s_law_of 2 ["deal", "some"] 2 w_law_of := by
  rw [w_law_of_eq]
  refine T.defD (T.glo 13) 8 rfl sc_law_of rfl rfl (fun _ _ _ _ _ _ us hl => match us, hl with | [_, _], _ => rfl) fun cdv A outer s H E hr => ?_
  exact (ds_one (ds_ret (de_ix (de_var 1) (de_fn (ok_law_any T) (hr.mono (by decide)) tkF (da_cons (de_var 0) (da_cons (de_callB call_len br_len (T.free 11) PySem.boot_len (da_cons (de_var 1) da_nil)) da_nil))))))

theorem sc_law_is_kind : FnScope ["told", "due"] ["told", "due"] (defScope s_law_is_kind) := ⟨rfl, rfl, rfl, by decide +kernel, rfl, by decide +kernel, by decide +kernel⟩
theorem ok_law_is_kind (T : TX K mg) : DefOk P w K mg base "_law_is_kind" s_law_is_kind 1 ["told", "due"] 2 w_law_is_kind := by
  rw [w_law_is_kind_eq]
  refine T.defD (T.glo 17) 9 rfl sc_law_is_kind rfl rfl (fun _ _ _ _ _ _ us hl => match us, hl with | [_, _], _ => rfl) fun cdv A outer s H E hr => ?_
  exact (ds_cons (ds_if (dt_isN (de_var 1))
    (ds_one (ds_ret (de_isN (de_var 0))))
    ds_nil)
    (ds_cons (ds_if (L2.PW.pt (dw_or (dt_isB (de_var 1)) (pw_or1 (dt_isB (de_var 1)))))
    (ds_one (ds_ret (de_if (dt_tru (de_var 1)) (de_isB (de_var 0)) (de_isB (de_var 0)))))
    ds_nil)
    (ds_cons (ds_if (dt_tru (de_isi 3 (by decide) (by decide) (T.free 14) (T.free 15) (by decide +kernel) (de_var 1)))
    (ds_one (ds_ret (de_and (de_isi 3 (by decide) (by decide) (T.free 14) (T.free 15) (by decide +kernel) (de_var 0)) (pe_one (de_eq (de_var 0) (de_var 1))))))
    ds_nil)
    (ds_one (ds_ret (de_and (de_isi 2 (by decide) (by decide) (T.free 14) (T.free 9) (by decide +kernel) (de_var 0)) (de_and (de_not (de_isi 1 (by decide) (by decide) (T.free 14) (T.free 16) (by decide +kernel) (de_var 0))) (pe_one (de_eq (de_var 0) (de_var 1))))))))))

theorem sc_law_same : FnScope ["told", "due", "todo", "one", "other", "at"] ["told", "due"] (defScope s_law_same) := ⟨rfl, rfl, rfl, by decide +kernel, rfl, by decide +kernel, by decide +kernel⟩
theorem ok_law_same (T : TX K mg) : DefOk P w K mg base "_law_same" s_law_same 2 ["told", "due"] 2 w_law_same := by
  rw [w_law_same_eq]
  refine T.defD (T.glo 21) 10 rfl sc_law_same rfl rfl (fun _ _ _ _ _ _ us hl => match us, hl with | [_, _], _ => rfl) fun cdv A outer s H E hr => ?_
  exact (ds_cons (ds_set (i := 2) sc_law_same.nd (de_lst (da_cons (de_tup (da_cons (de_var 0) (da_cons (de_var 1) da_nil))) da_nil)))
    (ds_cons (ds_while poF (dt_gt (de_callB call_len br_len (T.free 11) PySem.boot_len (da_cons (de_var 2) da_nil)) de_int)
    (ds_cons (ds_asg (vs := [3, 4]) (de_pop (de_var 2)) (dg_tup rfl (dgs_cons (dg_name sc_law_same.nd (by decide)) (dgs_cons (dg_name sc_law_same.nd (by decide)) dgs_nil))))
    (ds_one (ds_if (dt_tru (de_isi 4 (by decide) (by decide) (T.free 14) (T.free 6) (by decide +kernel) (de_var 4)))
    (ds_cons (ds_if (L2.PW.pt (dw_or (dt_not (dt_tru (de_isi 4 (by decide) (by decide) (T.free 14) (T.free 6) (by decide +kernel) (de_var 3)))) (pw_or1 (dt_ne (de_callB call_len br_len (T.free 11) PySem.boot_len (da_cons (de_var 3) da_nil)) (de_callB call_len br_len (T.free 11) PySem.boot_len (da_cons (de_var 4) da_nil))))))
    (ds_one (ds_ret de_bl))
    ds_nil)
    (ds_one (ds_for (vs := [5]) poF rfl (di_range1 (T.free 18) (de_callB call_len br_len (T.free 11) PySem.boot_len (da_cons (de_var 4) da_nil))) (dg_name sc_law_same.nd (by decide))
    (ds_one (ds_expr (de_append (de_var 2) (de_tup (da_cons (de_ix (de_var 3) (de_var 5)) (da_cons (de_ix (de_var 4) (de_var 5)) da_nil)))))))))
    (ds_one (ds_if (L2.PW.pt (dw_or (dt_tru (de_isi3 4 5 6 (by decide) (by decide) (by decide) (T.free 14) (T.free 6) (T.free 19) (T.free 20) (by decide +kernel) (by decide +kernel) (by decide +kernel) (de_var 3))) (pw_or1 (dt_not (dt_tru (de_fn (ok_law_is_kind T) (hr.mono (by decide)) tkF (da_cons (de_var 3) (da_cons (de_var 4) da_nil))))))))
    (ds_one (ds_ret de_bl))
    ds_nil))))))
    (ds_one (ds_ret de_bl))))

theorem sc_law_all : FnScope ["pairs", "told", "due"] ["pairs"] (defScope s_law_all) := ⟨rfl, rfl, rfl, by decide +kernel, rfl, by decide +kernel, by decide +kernel⟩
theorem ok_law_all (T : TX K mg) : DefOk P w K mg base "_law_all" s_law_all 3 ["pairs"] 1 w_law_all := by
  rw [w_law_all_eq]
  refine T.defD (T.glo 22) 11 rfl sc_law_all rfl rfl (fun _ _ _ _ _ _ us hl => match us, hl with | [_], _ => rfl) fun cdv A outer s H E hr => ?_
  exact (ds_one (ds_ret (de_eq (de_callB call_len br_len (T.free 11) PySem.boot_len (da_cons (de_lc (own := [("told", 1), ("due", 2)]) rfl sc_law_all.nd (by dsimp only [cxOf, envOfC, compEnvC]; decide +kernel) (di_seq (de_var 0)) (fun _ _ _ _ _ => (dg_tup rfl (dgs_cons (dg_name sc_law_all.nd (by decide)) (dgs_cons (dg_name sc_law_all.nd (by decide)) dgs_nil)))) (fun _ _ _ _ _ => (dts_one (dt_not (dt_tru (de_fn (ok_law_same T) (hr.mono (by decide)) takes0 (da_cons (de_var 1) (da_cons (de_var 2) da_nil))))))) (fun _ _ _ _ _ => (de_var 1))) da_nil)) de_int)))

theorem sc_law_divisor : FnScope ["one", "other"] ["one", "other"] (defScope s_law_divisor) := ⟨rfl, rfl, rfl, by decide +kernel, rfl, by decide +kernel, by decide +kernel⟩
theorem ok_law_divisor (T : TX K mg) : DefOk P w K mg base "_law_divisor" s_law_divisor 1 ["one", "other"] 2 w_law_divisor := by
  rw [w_law_divisor_eq]
  refine T.defD (T.glo 23) 12 rfl sc_law_divisor rfl rfl (fun _ _ _ _ _ _ us hl => match us, hl with | [_, _], _ => rfl) fun cdv A outer s H E hr => ?_
  exact (ds_cons (ds_while poF (dt_ne (de_var 1) de_int)
    (ds_one (ds_par (i := 0) (j := 1) sc_law_divisor.nd rfl (da_cons (de_var 1) (da_cons (de_mod (de_callTy call_int1 br_int (T.free 9) PyProof.Rows.boot_int (da_cons (de_var 0) da_nil)) (de_var 1)) da_nil)))))
    (ds_one (ds_ret (de_var 0))))

theorem sc_law_ratio : FnScope ["top", "bottom", "both"] ["top", "bottom"] (defScope s_law_ratio) := ⟨rfl, rfl, rfl, by decide +kernel, rfl, by decide +kernel, by decide +kernel⟩
theorem ok_law_ratio (T : TX K mg) : DefOk P w K mg base "_law_ratio" s_law_ratio 2 ["top", "bottom"] 2 w_law_ratio := by
  rw [w_law_ratio_eq]
  refine T.defD (T.glo 24) 13 rfl sc_law_ratio rfl rfl (fun _ _ _ _ _ _ us hl => match us, hl with | [_, _], _ => rfl) fun cdv A outer s H E hr => ?_
  exact (ds_cons (ds_if (dt_lt (de_var 1) de_int)
    (ds_one (ds_par (i := 0) (j := 1) sc_law_ratio.nd rfl (da_cons (de_sub de_int (de_var 0)) (da_cons (de_sub de_int (de_var 1)) da_nil))))
    ds_nil)
    (ds_cons (ds_set (i := 2) sc_law_ratio.nd (de_fn (ok_law_divisor T) (hr.mono (by decide)) tkF (da_cons (de_callB call_abs br_abs (T.free 0) (by decide +kernel) (da_cons (de_var 0) da_nil)) (da_cons (de_var 1) da_nil))))
    (ds_one (ds_ret (de_tup (da_cons (de_callTy call_int1 br_int (T.free 9) PyProof.Rows.boot_int (da_cons (de_div (de_var 0) (de_var 2)) da_nil)) (da_cons (de_callTy call_int1 br_int (T.free 9) PyProof.Rows.boot_int (da_cons (de_div (de_var 1) (de_var 2)) da_nil)) da_nil)))))))

theorem sc_law_plus : FnScope ["one", "other"] ["one", "other"] (defScope s_law_plus) := ⟨rfl, rfl, rfl, by decide +kernel, rfl, by decide +kernel, by decide +kernel⟩
theorem ok_law_plus (T : TX K mg) : DefOk P w K mg base "_law_plus" s_law_plus 3 ["one", "other"] 2 w_law_plus := by
  rw [w_law_plus_eq]
  refine T.defD (T.glo 25) 14 rfl sc_law_plus rfl rfl (fun _ _ _ _ _ _ us hl => match us, hl with | [_, _], _ => rfl) fun cdv A outer s H E hr => ?_
  exact (ds_one (ds_ret (de_fn (ok_law_ratio T) (hr.mono (by decide)) tkF (da_cons (de_add (de_mul (de_ix (de_var 0) de_int) (de_ix (de_var 1) de_int)) (de_mul (de_ix (de_var 1) de_int) (de_ix (de_var 0) de_int))) (da_cons (de_mul (de_ix (de_var 0) de_int) (de_ix (de_var 1) de_int)) da_nil)))))

theorem sc_law_times : FnScope ["one", "other"] ["one", "other"] (defScope s_law_times) := ⟨rfl, rfl, rfl, by decide +kernel, rfl, by decide +kernel, by decide +kernel⟩
theorem ok_law_times (T : TX K mg) : DefOk P w K mg base "_law_times" s_law_times 3 ["one", "other"] 2 w_law_times := by
  rw [w_law_times_eq]
  refine T.defD (T.glo 26) 15 rfl sc_law_times rfl rfl (fun _ _ _ _ _ _ us hl => match us, hl with | [_, _], _ => rfl) fun cdv A outer s H E hr => ?_
  exact (ds_one (ds_ret (de_fn (ok_law_ratio T) (hr.mono (by decide)) tkF (da_cons (de_mul (de_ix (de_var 0) de_int) (de_ix (de_var 1) de_int)) (da_cons (de_mul (de_ix (de_var 0) de_int) (de_ix (de_var 1) de_int)) da_nil)))))

theorem sc_law_price : FnScope ["deal"] ["deal"] (defScope s_law_price) := ⟨rfl, rfl, rfl, by decide +kernel, rfl, by decide +kernel, by decide +kernel⟩
theorem ok_law_price (T : TX K mg) : DefOk P w K mg base "_law_price" s_law_price 3 ["deal"] 1 w_law_price := by
  rw [w_law_price_eq]
  refine T.defD (T.glo 27) 16 rfl sc_law_price rfl rfl (fun _ _ _ _ _ _ us hl => match us, hl with | [_], _ => rfl) fun cdv A outer s H E hr => ?_
  exact (ds_one (ds_ret (de_fn (ok_law_of T) (hr.mono (by decide)) tkF (da_cons (de_var 0) (da_cons (de_lst (da_cons (de_tup (da_cons de_int (da_cons de_int da_nil))) (da_cons (de_tup (da_cons de_int (da_cons de_int da_nil))) (da_cons (de_tup (da_cons de_int (da_cons de_int da_nil))) (da_cons (de_tup (da_cons de_int (da_cons de_int da_nil))) (da_cons (de_tup (da_cons de_int (da_cons de_int da_nil))) (da_cons (de_tup (da_cons de_int (da_cons de_int da_nil))) (da_cons (de_tup (da_cons de_int (da_cons de_int da_nil))) (da_cons (de_tup (da_cons de_int (da_cons de_int da_nil))) (da_cons (de_tup (da_cons de_int (da_cons de_int da_nil))) (da_cons (de_tup (da_cons de_int (da_cons de_int da_nil))) (da_cons (de_tup (da_cons de_int (da_cons de_int da_nil))) da_nil)))))))))))) da_nil)))))

theorem sc_law_low_price : FnScope ["deal"] ["deal"] (defScope s_law_low_price) := ⟨rfl, rfl, rfl, by decide +kernel, rfl, by decide +kernel, by decide +kernel⟩
theorem ok_law_low_price (T : TX K mg) : DefOk P w K mg base "_law_low_price" s_law_low_price 3 ["deal"] 1 w_law_low_price := by
  rw [w_law_low_price_eq]
  refine T.defD (T.glo 28) 17 rfl sc_law_low_price rfl rfl (fun _ _ _ _ _ _ us hl => match us, hl with | [_], _ => rfl) fun cdv A outer s H E hr => ?_
  exact (ds_one (ds_ret (de_fn (ok_law_of T) (hr.mono (by decide)) tkF (da_cons (de_var 0) (da_cons (de_lst (da_cons (de_tup (da_cons de_int (da_cons de_int da_nil))) (da_cons (de_tup (da_cons de_int (da_cons de_int da_nil))) (da_cons (de_tup (da_cons de_int (da_cons de_int da_nil))) (da_cons (de_tup (da_cons de_int (da_cons de_int da_nil))) (da_cons (de_tup (da_cons de_int (da_cons de_int da_nil))) (da_cons (de_tup (da_cons de_int (da_cons de_int da_nil))) (da_cons (de_tup (da_cons de_int (da_cons de_int da_nil))) da_nil)))))))) da_nil)))))

theorem sc_law_paid : FnScope ["pay", "prices", "found", "at"] ["pay", "prices"] (defScope s_law_paid) := ⟨rfl, rfl, rfl, by decide +kernel, rfl, by decide +kernel, by decide +kernel⟩
theorem ok_law_paid (T : TX K mg) : DefOk P w K mg base "_law_paid" s_law_paid 4 ["pay", "prices"] 2 w_law_paid := by
  rw [w_law_paid_eq]
  refine T.defD (T.glo 29) 18 rfl sc_law_paid rfl rfl (fun _ _ _ _ _ _ us hl => match us, hl with | [_, _], _ => rfl) fun cdv A outer s H E hr => ?_
  exact (ds_cons (ds_set (i := 2) sc_law_paid.nd (de_ix (de_var 0) de_int))
    (ds_cons (ds_for (vs := [3]) poF rfl (di_range1 (T.free 18) (de_callB call_len br_len (T.free 11) PySem.boot_len (da_cons (de_var 1) da_nil))) (dg_name sc_law_paid.nd (by decide))
    (ds_one (ds_set (i := 2) sc_law_paid.nd (de_fn (ok_law_plus T) (hr.mono (by decide)) tkF (da_cons (de_var 2) (da_cons (de_fn (ok_law_times T) (hr.mono (by decide)) tkF (da_cons (de_tup (da_cons (de_ix (de_ix (de_var 0) de_int) (de_var 3)) (da_cons de_int da_nil))) (da_cons (de_ix (de_var 1) (de_var 3)) da_nil))) da_nil))))))
    (ds_one (ds_ret (de_var 2)))))

theorem sc_law_drawn_pay : FnScope ["deal", "many", "most", "at"] ["deal", "many", "most"] (defScope s_law_drawn_pay) := ⟨rfl, rfl, rfl, by decide +kernel, rfl, by decide +kernel, by decide +kernel⟩
theorem ok_law_drawn_pay (T : TX K mg) : DefOk P w K mg base "_law_drawn_pay" s_law_drawn_pay 4 ["deal", "many", "most"] 3 w_law_drawn_pay := by
  rw [w_law_drawn_pay_eq]
  refine T.defD (T.glo 30) 19 rfl sc_law_drawn_pay rfl rfl (fun _ _ _ _ _ _ us hl => match us, hl with | [_, _, _], _ => rfl) fun cdv A outer s H E hr => ?_
  exact (ds_one (ds_ret (de_tup (da_cons (de_fn (ok_law_low_price T) (hr.mono (by decide)) tkF (da_cons (de_var 0) da_nil)) (da_cons (de_callTy call_tuple_of br_tuple (T.free 6) PyProof.Rows.boot_tuple (da_cons (de_lc (own := [("at", 3)]) rfl sc_law_drawn_pay.nd (by dsimp only [cxOf, envOfC, compEnvC]; decide +kernel) (di_range1 (T.free 18) (de_var 1)) (fun _ _ _ _ _ => (dg_name sc_law_drawn_pay.nd (by decide))) (fun _ _ _ _ _ => dts_nil) (fun _ _ _ _ _ => (de_fn (ok_law_any T) (hr.mono (by decide)) takes0 (da_cons (de_var 0) (da_cons (de_var 2) da_nil))))) da_nil)) da_nil)))))

theorem sc_law_drawn_pays : FnScope ["deal", "many", "size", "most", "turn"] ["deal", "many", "size", "most"] (defScope s_law_drawn_pays) := ⟨rfl, rfl, rfl, by decide +kernel, rfl, by decide +kernel, by decide +kernel⟩
theorem ok_law_drawn_pays (T : TX K mg) : DefOk P w K mg base "_law_drawn_pays" s_law_drawn_pays 5 ["deal", "many", "size", "most"] 4 w_law_drawn_pays := by
  rw [w_law_drawn_pays_eq]
  refine T.defD (T.glo 31) 20 rfl sc_law_drawn_pays rfl rfl (fun _ _ _ _ _ _ us hl => match us, hl with | [_, _, _, _], _ => rfl) fun cdv A outer s H E hr => ?_
  exact (ds_one (ds_ret (de_lc (own := [("turn", 4)]) rfl sc_law_drawn_pays.nd (by dsimp only [cxOf, envOfC, compEnvC]; decide +kernel) (di_range1 (T.free 18) (de_var 2)) (fun _ _ _ _ _ => (dg_name sc_law_drawn_pays.nd (by decide))) (fun _ _ _ _ _ => dts_nil) (fun _ _ _ _ _ => (de_fn (ok_law_drawn_pay T) (hr.mono (by decide)) takes0 (da_cons (de_var 0) (da_cons (de_var 1) (da_cons (de_var 3) da_nil))))))))

theorem sc_law_drawn_weights : FnScope ["deal", "size", "some", "turn", "number"] ["deal", "size"] (defScope s_law_drawn_weights) := ⟨rfl, rfl, rfl, by decide +kernel, rfl, by decide +kernel, by decide +kernel⟩
theorem ok_law_drawn_weights (T : TX K mg) : DefOk P w K mg base "_law_drawn_weights" s_law_drawn_weights 3 ["deal", "size"] 2 w_law_drawn_weights := by
  rw [w_law_drawn_weights_eq]
  refine T.defD (T.glo 33) 21 rfl sc_law_drawn_weights rfl rfl (fun _ _ _ _ _ _ us hl => match us, hl with | [_, _], _ => rfl) fun cdv A outer s H E hr => ?_
  exact (ds_cons (ds_set (i := 2) sc_law_drawn_weights.nd (de_lc (own := [("turn", 3)]) rfl sc_law_drawn_weights.nd (by dsimp only [cxOf, envOfC, compEnvC]; decide +kernel) (di_range1 (T.free 18) (de_var 1)) (fun _ _ _ _ _ => (dg_name sc_law_drawn_weights.nd (by decide))) (fun _ _ _ _ _ => dts_nil) (fun _ _ _ _ _ => (de_fn (ok_law_any T) (hr.mono (by decide)) takes0 (da_cons (de_var 0) (da_cons de_int da_nil))))))
    (ds_cons (ds_setIx (de_add de_int (de_fn (ok_law_any T) (hr.mono (by decide)) tkF (da_cons (de_var 0) (da_cons de_int da_nil)))) (de_var 2) (de_fn (ok_law_any T) (hr.mono (by decide)) tkF (da_cons (de_var 0) (da_cons (de_var 1) da_nil))))
    (ds_one (ds_ret (de_callTy call_tuple_of br_tuple (T.free 6) PyProof.Rows.boot_tuple (da_cons (de_lc (own := [("number", 4)]) rfl sc_law_drawn_weights.nd (by dsimp only [cxOf, envOfC, compEnvC]; decide +kernel) (di_seq (de_var 2)) (fun _ _ _ _ _ => (dg_name sc_law_drawn_weights.nd (by decide))) (fun _ _ _ _ _ => dts_nil) (fun _ _ _ _ _ => (de_fn (ok_law_ratio T) (hr.mono (by decide)) takes0 (da_cons (de_var 4) (da_cons (de_callB (cr_sum rfl) br_sum (T.free 32) (by decide +kernel) (da_cons (de_var 2) da_nil)) da_nil))))) da_nil))))))

theorem sc_law : FnScope ["script", "deal", "pairs", "turn", "pays", "at", "told", "spot", "many", "size", "weights", "prices", "price", "counts", "whole", "worth", "paid"] ["script"] (defScope s_law) := ⟨rfl, rfl, rfl, by decide +kernel, rfl, by decide +kernel, by decide +kernel⟩
theorem ok_law (T : TX K mg) : DefOk P w K mg base "law" s_law 6 ["script"] 1 w_law := by
  rw [w_law_eq]
  refine T.defD (T.glo 34) 22 rfl sc_law rfl rfl (fun _ _ _ _ _ _ us hl => match us, hl with | [_], _ => rfl) fun cdv A outer s H E hr => ?_
  exact (ds_cons (ds_set (i := 1) sc_law.nd (de_fn (ok_law_deal T) (hr.mono (by decide)) tkF (da_cons (de_var 0) (da_cons de_int da_nil))))
    (ds_cons (ds_set (i := 2) sc_law.nd (de_lst da_nil))
    (ds_cons (ds_for (vs := [3]) poF rfl (di_range1 (T.free 18) de_int) (dg_name sc_law.nd (by decide))
    (ds_cons (ds_par (i := 8) (j := 9) sc_law.nd rfl (da_cons (de_fn (ok_law_any T) (hr.mono (by decide)) tkF (da_cons (de_var 1) (da_cons de_int da_nil))) (da_cons (de_add de_int (de_fn (ok_law_any T) (hr.mono (by decide)) tkF (da_cons (de_var 1) (da_cons de_int da_nil)))) da_nil)))
    (ds_cons (ds_set (i := 4) sc_law.nd (de_callTy call_tuple_of br_tuple (T.free 6) PyProof.Rows.boot_tuple (da_cons (de_fn (ok_law_drawn_pays T) (hr.mono (by decide)) tkF (da_cons (de_var 1) (da_cons (de_var 8) (da_cons (de_var 9) (da_cons de_int da_nil))))) da_nil)))
    (ds_cons (ds_asg (vs := [10, 11]) (de_tup (da_cons (de_fn (ok_law_drawn_weights T) (hr.mono (by decide)) tkF (da_cons (de_var 1) (da_cons (de_var 9) da_nil))) (da_cons (de_callTy call_tuple_of br_tuple (T.free 6) PyProof.Rows.boot_tuple (da_cons (de_lc (own := [("at", 5)]) rfl sc_law.nd (by dsimp only [cxOf, envOfC, compEnvC]; decide +kernel) (di_range1 (T.free 18) (de_var 8)) (fun _ _ _ _ _ => (dg_name sc_law.nd (by decide))) (fun _ _ _ _ _ => dts_nil) (fun _ _ _ _ _ => (de_fn (ok_law_price T) (hr.mono (by decide)) takes0 (da_cons (de_var 1) da_nil)))) da_nil)) da_nil))) (dg_tup rfl (dgs_cons (dg_name sc_law.nd (by decide)) (dgs_cons (dg_name sc_law.nd (by decide)) dgs_nil))))
    (ds_cons (ds_asg (vs := [12, 13]) (de_tup (da_cons (de_tup (da_cons de_int (da_cons de_int da_nil))) (da_cons (de_mul (de_lst (da_cons (de_tup (da_cons de_int (da_cons de_int da_nil))) da_nil)) (de_var 8)) da_nil))) (dg_tup rfl (dgs_cons (dg_name sc_law.nd (by decide)) (dgs_cons (dg_name sc_law.nd (by decide)) dgs_nil))))
    (ds_cons (ds_for (vs := [5]) poF rfl (di_range1 (T.free 18) (de_var 9)) (dg_name sc_law.nd (by decide))
    (ds_cons (ds_set (i := 12) sc_law.nd (de_fn (ok_law_plus T) (hr.mono (by decide)) tkF (da_cons (de_var 12) (da_cons (de_fn (ok_law_times T) (hr.mono (by decide)) tkF (da_cons (de_ix (de_var 10) (de_var 5)) (da_cons (de_ix (de_ix (de_var 4) (de_var 5)) de_int) da_nil))) da_nil))))
    (ds_one (ds_set (i := 13) sc_law.nd (de_lc (own := [("spot", 7)]) rfl sc_law.nd (by dsimp only [cxOf, envOfC, compEnvC]; decide +kernel) (di_range1 (T.free 18) (de_var 8)) (fun _ _ _ _ _ => (dg_name sc_law.nd (by decide))) (fun _ _ _ _ _ => dts_nil) (fun _ _ _ _ _ => (de_fn (ok_law_plus T) (hr.mono (by decide)) takes0 (da_cons (de_ix (de_var 13) (de_var 7)) (da_cons (de_fn (ok_law_times T) (hr.mono (by decide)) takes0 (da_cons (de_ix (de_var 10) (de_var 5)) (da_cons (de_tup (da_cons (de_ix (de_ix (de_ix (de_var 4) (de_var 5)) de_int) (de_var 7)) (da_cons de_int da_nil))) da_nil))) da_nil)))))))))
    (ds_cons (ds_set (i := 6) sc_law.nd (de_if (dt_gt (de_var 3) de_int) (de_fn (ok_mixed T) (hr.mono (by decide)) tkF (da_cons (de_var 10) (da_cons (de_var 4) da_nil))) (de_fnK0 (ks := ["pays", "weights"]) (π := [1, 0]) (ok_mixed T) (hr.mono (by decide)) tkF (fun _ _ _ _ _ _ us ws l1 l2 => match us, ws, l1, l2 with | [], [_, _], _, _ => rfl) rfl (by decide) (dk_cons (de_var 4) (dk_cons (de_var 10) dk_nil)))))
    (ds_cons (ds_expr (de_append (de_var 2) (de_tup (da_cons (de_var 6) (da_cons (de_tup (da_cons (de_var 12) (da_cons (de_callTy call_tuple_of br_tuple (T.free 6) PyProof.Rows.boot_tuple (da_cons (de_var 13) da_nil)) da_nil))) da_nil)))))
    (ds_cons (ds_par (i := 14) (j := 15) sc_law.nd rfl (da_cons (de_var 12) (da_cons (de_tup (da_cons de_int (da_cons de_int da_nil))) da_nil)))
    (ds_cons (ds_for (vs := [7]) poF rfl (di_range1 (T.free 18) (de_var 8)) (dg_name sc_law.nd (by decide))
    (ds_one (ds_set (i := 14) sc_law.nd (de_fn (ok_law_plus T) (hr.mono (by decide)) tkF (da_cons (de_var 14) (da_cons (de_fn (ok_law_times T) (hr.mono (by decide)) tkF (da_cons (de_ix (de_var 13) (de_var 7)) (da_cons (de_ix (de_var 11) (de_var 7)) da_nil))) da_nil))))))
    (ds_cons (ds_for (vs := [5]) poF rfl (di_range1 (T.free 18) (de_var 9)) (dg_name sc_law.nd (by decide))
    (ds_cons (ds_set (i := 16) sc_law.nd (de_fn (ok_law_paid T) (hr.mono (by decide)) tkF (da_cons (de_ix (de_var 4) (de_var 5)) (da_cons (de_var 11) da_nil))))
    (ds_cons (ds_set (i := 15) sc_law.nd (de_fn (ok_law_plus T) (hr.mono (by decide)) tkF (da_cons (de_var 15) (da_cons (de_fn (ok_law_times T) (hr.mono (by decide)) tkF (da_cons (de_ix (de_var 10) (de_var 5)) (da_cons (de_var 16) da_nil))) da_nil))))
    (ds_one (ds_set (i := 2) sc_law.nd (de_add (de_var 2) (de_lst (da_cons (de_tup (da_cons (de_fn (ok_paid_at T) (hr.mono (by decide)) tkF (da_cons (de_ix (de_var 4) (de_var 5)) (da_cons (de_var 11) da_nil))) (da_cons (de_var 16) da_nil))) (da_cons (de_tup (da_cons (de_fnK0 (ks := ["prices", "pay"]) (π := [1, 0]) (ok_paid_at T) (hr.mono (by decide)) tkF (fun _ _ _ _ _ _ us ws l1 l2 => match us, ws, l1, l2 with | [], [_, _], _, _ => rfl) rfl (by decide) (dk_cons (de_var 11) (dk_cons (de_ix (de_var 4) (de_var 5)) dk_nil))) (da_cons (de_var 16) da_nil))) da_nil)))))))))
    (ds_one (ds_expr (de_append (de_var 2) (de_tup (da_cons (de_var 15) (da_cons (de_var 14) da_nil)))))))))))))))))
    (ds_cons (ds_set (i := 2) sc_law.nd (de_add (de_var 2) (de_lst (da_cons (de_tup (da_cons (de_fn (ok_mixed T) (hr.mono (by decide)) tkF (da_cons (de_tup (da_cons (de_tup (da_cons de_int (da_cons de_int da_nil))) (da_cons (de_tup (da_cons de_int (da_cons de_int da_nil))) da_nil))) (da_cons (de_tup (da_cons (de_tup (da_cons (de_tup (da_cons de_int (da_cons de_int da_nil))) (da_cons (de_tup (da_cons de_int (da_cons de_int da_nil))) da_nil))) (da_cons (de_tup (da_cons (de_tup (da_cons de_int (da_cons de_int da_nil))) (da_cons (de_tup (da_cons de_int (da_cons de_int da_nil))) da_nil))) da_nil))) da_nil))) (da_cons (de_tup (da_cons (de_tup (da_cons de_int (da_cons de_int da_nil))) (da_cons (de_tup (da_cons (de_tup (da_cons de_int (da_cons de_int da_nil))) (da_cons (de_tup (da_cons de_int (da_cons de_int da_nil))) da_nil))) da_nil))) da_nil))) da_nil))))
    (ds_one (ds_ret (de_fn (ok_law_all T) (hr.mono (by decide)) tkF (da_cons (de_add (de_var 2) (de_lst (da_cons (de_tup (da_cons (de_fn (ok_paid_at T) (hr.mono (by decide)) tkF (da_cons (de_tup (da_cons (de_tup (da_cons de_int (da_cons de_int da_nil))) (da_cons (de_tup (da_cons de_int da_nil)) da_nil))) (da_cons (de_tup (da_cons (de_tup (da_cons de_int (da_cons de_int da_nil))) da_nil)) da_nil))) (da_cons (de_tup (da_cons de_int (da_cons de_int da_nil))) da_nil))) (da_cons (de_tup (da_cons (de_fn (ok_paid_at T) (hr.mono (by decide)) tkF (da_cons (de_tup (da_cons (de_tup (da_cons de_int (da_cons de_int da_nil))) (da_cons (de_tup da_nil) da_nil))) (da_cons (de_tup da_nil) da_nil))) (da_cons (de_tup (da_cons de_int (da_cons de_int da_nil))) da_nil))) da_nil)))) da_nil))))))))

end
/-! ### the head -/
abbrev RR : PySem.W.OpenRow := PySem.W.OpenLaw.row PySem.Challenge.rw_cheapathand_k12_what_is_mixed_and_paid
def loose0 : List Str := ["ZERO", "common_divisor", "ratio", "ratio_plus", "ratio_times", "mixed", "paid_at", "_law_deal", "_law_any", "_law_of", "_law_is_kind", "_law_same", "_law_all", "_law_divisor", "_law_ratio", "_law_plus", "_law_times", "_law_price", "_law_low_price", "_law_paid", "_law_drawn_pay", "_law_drawn_pays", "_law_drawn_weights"]
abbrev loose : List Str := loose0
def ob (s : PySem.W.SharedT) : AlX := obsXG 5 fas fns css (HandSHeadRun.getT s)
theorem ob_eq (s : PySem.W.SharedT) : ob s = (hookX 5 fas fns css).obs s.abs := obsXG_eq (HandSHeadRun.getT_eq s)
theorem run (w : World) : HandSHeadRun.RunEq RR (PySem.W.view RR.prog [26]) (hookX 5 fas fns css) ob 20000 loose w := by
  intro os
  kernel_rfl
theorem facts {P : Program} {w : World} {K : PySem.W.Frag} {h : Heap} {mg : Str → Option Value} {f : Addr} (X : K.In h) (G : h.Ns mainGlobals mg) (hfa : mg ("law" : Str) = some (.ref f)) (c : SaysX fas fns css K) :
    ∃ fd : FuncData, (∀ (s : Shared) (v : Value), BindsTo s fd ⟨[v], []⟩ [("script", v)]) ∧ ∀ base : Heap, K.In base → base.Ns mainGlobals mg → FnOk P w K mg base (L2.CX P w) 6 f fd ["script"] (dSp K 1 w_law) := by
  have T : TX K mg := ⟨h, X, G, c⟩
  obtain ⟨fd, F⟩ := c.d.def_ 22 (d := dd_law) rfl
  have e := hfa.symm.trans (T.glo 34)
  cases e
  have b := FunD.bindsA (ps := ["script"]) F fun _ _ _ _ _ _ us hl => match us, hl with | [_], _ => rfl
  exact ⟨fd, fun s v => b s [v] rfl, fun base _ _ => Tx.lawD (ok_law T) F⟩
end K12
namespace K12
open PySem PySem.Spec PyProof.Rows L2 DL
variable {S : Sto} {R : RD} {Rx : RX}
/-- the greatest common divisor -/
abbrev gcdZ (a b : Int) : Int := ((Int.gcd a b : Nat) : Int)
theorem lp_gcd {E : DEnds} {S : Sto} : ∀ (n : Nat) (a b : Int), 0 ≤ a → 0 ≤ b → b.toNat < n → E.nx [some (.int (gcdZ a b)), some (.int 0)] S → whileN c1_common_divisor b1_common_divisor E n [some (.int a), some (.int b)] S
  | 0, _, _, _, _, h, _ => by omega
  | n + 1, a, b, ha, hb, h, k => by
    refine ifB (fun hc => ?_) fun hc => ?_
    · have hb0 : b ≠ 0 := by simpa using hc
      refine ⟨by omega, ?_⟩
      refine lp_gcd n b (a % b) hb (Int.emod_nonneg _ hb0) ?_ ?_
      · have := Int.emod_lt_of_pos a (show 0 < b by omega)
        omega
      · have e : gcdZ b (a % b) = gcdZ a b := congrArg Int.ofNat (gcd_step a b)
        rw [e]
        exact k
    · have hb0 : b = 0 := by simpa using hc
      subst hb0
      have e : gcdZ a 0 = a := by
        show ((Int.gcd a 0 : Nat) : Int) = a
        rw [Int.gcd_zero_right]
        omega
      rw [e] at k
      exact k
theorem sp_gcd {a b : Int} (h : R (.int (gcdZ a b)) S) : Cal w_common_divisor [.int a, .int b] S R Rx := by
  refine .mk ?_
  rw [w_common_divisor_eq]
  refine ⟨_, lp_gcd _ _ _ ?_ ?_ (Nat.lt_succ_self _) ?_⟩
  · split <;> omega
  · split <;> omega
  · have e : gcdZ (if a < 0 then -a else a) (if b < 0 then -b else b) = gcdZ a b := by
      unfold gcdZ
      split <;> split <;> simp
    rw [e]
    exact h
/-- the fraction of two numbers, in lowest terms -/
def frac (t b : Int) : Int × Int := if b < 0 then ((-t) / gcdZ t b, (-b) / gcdZ t b) else (t / gcdZ t b, b / gcdZ t b)
abbrev qD (q : Int × Int) : D := .tup [.int q.1, .int q.2]
theorem gcd_pos {a b : Int} (hb : b ≠ 0) : 0 < gcdZ a b := by
  have : 0 < Int.gcd a b := Int.gcd_pos_of_ne_zero_right a hb
  show (0 : Int) < ((Int.gcd a b : Nat) : Int)
  omega
theorem gcd_small {a b : Int} {n : Nat} (hb : b ≠ 0) (h : b.natAbs < 2 ^ n) : (gcdZ a b).natAbs < 2 ^ n := by
  refine Nat.lt_of_le_of_lt ?_ h
  show (((Int.gcd a b : Nat) : Int)).natAbs ≤ b.natAbs
  rw [Int.natAbs_natCast]
  exact Nat.le_of_dvd (by omega) (Int.gcd_dvd_natAbs_right a b)
theorem gcdZ_neg (a b : Int) : gcdZ (-a) (-b) = gcdZ a b := by unfold gcdZ; simp
theorem sp_ratio {a b : Int} (hb : b ≠ 0) (hs : b.natAbs < 2 ^ 8000) (h : R (qD (frac a b)) S) : Cal w_ratio [.int a, .int b] S R Rx := by
  refine .mk ?_
  rw [w_ratio_eq]
  have g0 := gcd_pos (a := a) hb
  have gl : (gcdZ a b).natAbs.log2 < 9000 := log2_lt (gcd_small hb hs) (by decide) (by decide)
  refine ifB (fun hc => ?_) fun hc => ?_
  · have hb0 : b < 0 := by simpa using hc
    refine sp_gcd ?_
    rw [gcdZ_neg]
    refine ⟨⟨g0, gl⟩, ⟨g0, gl⟩, by show 2 ≤ sizeLine; decide, ?_⟩
    unfold frac at h
    rw [if_pos hb0] at h
    exact h
  · have hb0 : ¬ b < 0 := by simpa using hc
    refine sp_gcd ⟨⟨g0, gl⟩, ⟨g0, gl⟩, by show 2 ≤ sizeLine; decide, ?_⟩
    unfold frac at h
    rw [if_neg hb0] at h
    exact h
theorem lp_div {E : DEnds} {S : Sto} : ∀ (n : Nat) (a b : Int), 0 ≤ a → 0 ≤ b → b.toNat < n → E.nx [some (.int (gcdZ a b)), some (.int 0)] S → whileN c1_law_divisor b1_law_divisor E n [some (.int a), some (.int b)] S
  | 0, _, _, _, _, h, _ => by omega
  | n + 1, a, b, ha, hb, h, k => by
    refine ifB (fun hc => ?_) fun hc => ?_
    · have hb0 : b ≠ 0 := by simpa using hc
      refine ⟨by omega, ?_⟩
      refine lp_div n b (a % b) hb (Int.emod_nonneg _ hb0) ?_ ?_
      · have := Int.emod_lt_of_pos a (show 0 < b by omega)
        omega
      · have e : gcdZ b (a % b) = gcdZ a b := congrArg Int.ofNat (gcd_step a b)
        rw [e]
        exact k
    · have hb0 : b = 0 := by simpa using hc
      subst hb0
      have e : gcdZ a 0 = a := by
        show ((Int.gcd a 0 : Nat) : Int) = a
        rw [Int.gcd_zero_right]
        omega
      rw [e] at k
      exact k
theorem sp_div {a b : Int} (ha : 0 ≤ a) (hb : 0 ≤ b) (h : R (.int (gcdZ a b)) S) : Cal w_law_divisor [.int a, .int b] S R Rx := by
  refine .mk ?_
  rw [w_law_divisor_eq]
  exact ⟨_, lp_div _ _ _ ha hb (Nat.lt_succ_self _) h⟩
theorem sp_lratio {a b : Int} (hb : b ≠ 0) (hs : b.natAbs < 2 ^ 8000) (h : R (qD (frac a b)) S) : Cal w_law_ratio [.int a, .int b] S R Rx := by
  refine .mk ?_
  rw [w_law_ratio_eq]
  have g0 := gcd_pos (a := a) hb
  have gl : (gcdZ a b).natAbs.log2 < 9000 := log2_lt (gcd_small hb hs) (by decide) (by decide)
  have gabs : ∀ x y : Int, gcdZ (if x < 0 then -x else x) y = gcdZ x y := fun x y => by
    unfold gcdZ
    split <;> simp
  refine ifB (fun hc => ?_) fun hc => ?_
  · have hb0 : b < 0 := by simpa using hc
    refine sp_div (by split <;> omega) (by omega) ?_
    rw [gabs, Int.zero_sub, Int.zero_sub, gcdZ_neg]
    refine ⟨⟨g0, gl⟩, ⟨g0, gl⟩, by show 2 ≤ sizeLine; decide, ?_⟩
    unfold frac at h
    rw [if_pos hb0] at h
    exact h
  · have hb0 : ¬ b < 0 := by simpa using hc
    refine sp_div (by split <;> omega) (by omega) ?_
    rw [gabs]
    refine ⟨⟨g0, gl⟩, ⟨g0, gl⟩, by show 2 ≤ sizeLine; decide, ?_⟩
    unfold frac at h
    rw [if_neg hb0] at h
    exact h
/-! ### draws -/
/-- a deal stands at n, its cells at m -/
structure Deal (n m : Nat) (S : Sto) : Prop where
  ne : n ≠ m
  ex : ∃ (cs : List Int) (mix : Int), S[n]? = some (.lst [D.ref m, D.int mix]) ∧ S[m]? = some (.lst (cs.map D.int)) ∧ cs.length ≤ 63 ∧ 0 ≤ mix ∧ mix < 2147483647
theorem Deal.frm0 {n m : Nat} {S S' : Sto} (d : Deal n m S) (f : Frm [] S S') : Deal n m S' := by
  obtain ⟨ne, cs, mix, h1, h2, h3⟩ := d
  exact ⟨ne, cs, mix, f.get0 h1, f.get0 h2, h3⟩
theorem Deal.lt {n m : Nat} {S : Sto} (d : Deal n m S) : n < S.length ∧ m < S.length := by
  obtain ⟨ne, cs, mix, h1, h2, h3⟩ := d
  exact ⟨lt_of_get h1, lt_of_get h2⟩
theorem lp_any {E : DEnds} {n m : Nat} {b mix : Int} {r0 : Option D} (ne : n ≠ m) : ∀ (k : Nat) (cs : List Int) (S : Sto), cs.length < k → S[n]? = some (.lst [D.ref m, D.int mix]) → S[m]? = some (.lst (cs.map D.int)) →
    (∀ (cs' : List Int) (S' : Sto), cs'.length ≤ cs.length → Frm [n, m] S S' → S'[n]? = some (.lst [D.ref m, D.int mix]) → S'[m]? = some (.lst (cs'.map D.int)) → E.nx [some (.ref n), some (.int b), r0] S') → whileN c1_law_any b1_law_any E k [some (.ref n), some (.int b), r0] S
  | 0, _, _, h, _, _, _ => by omega
  | k + 1, cs, S, hk, hn, hm, kk => by
    refine lst_at hn (ix_at rfl (lst_at hm (ifB (fun h1 => ?_) fun h1 => ?_)))
    · have hne : cs ≠ [] := by
        intro z
        subst z
        simp at h1
      obtain ⟨r, z, rfl⟩ := snoc_of hne
      have em : (r ++ [z]).map D.int = r.map D.int ++ [D.int z] := by simp
      rw [em] at hm
      have hl : (r ++ [z]).length = r.length + 1 := by simp
      refine lst_at hn (ix_at rfl (lst_at hm (ix_at (atI_last _ _) (ifB (fun h2 => ?_) fun h2 => ?_))))
      · refine lst_at hn (ix_at rfl (mlst_at hm (pop_snoc ?_)))
        show whileN c1_law_any b1_law_any E k [some (.ref n), some (.int b), r0] (S.set m (.lst (r.map D.int ++ [D.int z]).dropLast))
        rw [List.dropLast_concat]
        have lm := lt_of_get hm
        refine lp_any ne k r _ (by omega) (by rw [List.getElem?_set_ne (Ne.symm ne)]; exact hn) (by rw [List.getElem?_set_self lm]) fun cs' S' l f g1 g2 => kk cs' S' (by omega) ((Frm.set (by simp)).trans f) g1 g2
      · exact kk (r ++ [z]) S (Nat.le_refl _) Frm.refl hn (by rw [em]; exact hm)
    · exact ifF rfl (kk cs S (Nat.le_refl _) Frm.refl hn hm)
theorem sp_any {n m : Nat} {b : Int} (d : Deal n m S) (hb : 0 < b) (hs : b.natAbs < 2 ^ 8000) (k : ∀ r S', 0 ≤ r → r < b → Frm [n, m] S S' → Deal n m S' → R (.int r) S') : Cal w_law_any [.ref n, .int b] S R Rx := by
  obtain ⟨ne, cs, mix, hn, hm, hl, m0, m1⟩ := d
  refine .mk ?_
  rw [w_law_any_eq]
  refine ⟨cs.length + 1, lp_any (r0 := none) ne _ cs S (Nat.lt_succ_self _) hn hm fun cs' S' l f g1 g2 => ?_⟩
  have bl : b.natAbs.log2 < 9000 := log2_lt hs (by decide) (by decide)
  refine lst_at g1 (ix_at rfl (lst_at g2 (ifB (fun h1 => ?_) fun h1 => ?_)))
  · have hne : cs' ≠ [] := by
      intro z
      subst z
      simp at h1
    obtain ⟨r, z, rfl⟩ := snoc_of hne
    have em : (r ++ [z]).map D.int = r.map D.int ++ [D.int z] := by simp
    rw [em] at g2
    have lm := lt_of_get g2
    have ll : (r ++ [z]).length = r.length + 1 := by simp
    have e1 : (S'.set m (.lst (r.map D.int ++ [D.int z]).dropLast))[n]? = some (.lst [D.ref m, D.int mix]) := by rw [List.getElem?_set_ne (Ne.symm ne)]; exact g1
    have e2 : (S'.set m (.lst (r.map D.int ++ [D.int z]).dropLast))[m]? = some (.lst (r.map D.int)) := by rw [List.getElem?_set_self lm, List.dropLast_concat]
    refine lst_at g1 (ix_at rfl (mlst_at g2 (pop_snoc (lst_at e1 (ix_at rfl ⟨mlst_at e2 trivial, ⟨hb, bl⟩, mlst_at e2 ⟨?_, hb, ?_⟩⟩)))))
    · rw [List.length_map]
      exact small1000 (by omega)
    · refine k _ _ (Int.emod_nonneg _ (by omega)) (Int.emod_lt_of_pos _ hb) (f.trans ((Frm.set (by simp)).trans (Frm.set (by simp)))) ⟨ne, r ++ [z / b], mix, ?_, ?_, ?_, m0, m1⟩
      · rw [List.getElem?_set_ne (Ne.symm ne)]; exact e1
      · rw [List.getElem?_set_self (by simpa using lm)]; simp
      · simp; omega
  · have ln := lt_of_get g1
    refine lst_at g1 (ix_at rfl ⟨room (n := 31) (m := 16) ?_ (by decide) (by decide) (by decide) (by decide), ?_⟩)
    · show mix.natAbs < 2 ^ 31
      omega
    · refine ⟨by decide, mlst_at g1 ?_⟩
      have em : S'.set n (.lst ([D.ref m, D.int mix].set 1 (.int ((mix * 48271 + 31) % 2147483647)))) = S'.set n (.lst [.ref m, .int ((mix * 48271 + 31) % 2147483647)]) := rfl
      have e1 : (S'.set n (.lst [.ref m, .int ((mix * 48271 + 31) % 2147483647)]))[n]? = some (.lst [.ref m, .int ((mix * 48271 + 31) % 2147483647)]) := by rw [List.getElem?_set_self ln]
      have e2 : (S'.set n (.lst [.ref m, .int ((mix * 48271 + 31) % 2147483647)]))[m]? = some (.lst (cs'.map D.int)) := by rw [List.getElem?_set_ne ne]; exact g2
      refine lst_at e1 (ix_at rfl ⟨⟨by decide, by decide⟩, hb, ?_⟩)
      exact k _ _ (Int.emod_nonneg _ (by omega)) (Int.emod_lt_of_pos _ hb) (f.trans (Frm.set (by simp))) ⟨ne, cs', _, e1, e2, by omega, Int.emod_nonneg _ (by decide), Int.emod_lt_of_pos _ (by decide)⟩
/-! ### the judge of told and due -/
def Sc : D → Prop
  | .tup _ => False
  | .ref _ => False
  | _ => True
theorem sp_kind {d : D} (hd : Sc d) (h : R (.bl true) S) : Cal w_law_is_kind [d, d] S R Rx := by
  refine .mk ?_
  rw [w_law_is_kind_eq]
  cases d with
  | non => exact ifT rfl h
  | bl b =>
    cases b
    · exact ifF rfl (ifF rfl (ifT rfl (ifF rfl h)))
    · exact ifF rfl (ifT rfl (ifT rfl (ifT rfl h)))
  | int i =>
    have g : R (.bl (decide (i = i))) S := by simpa using h
    exact ifF rfl (ifF rfl (ifF rfl (ifF rfl (ifT rfl (ifT rfl g)))))
  | str x =>
    have g : R (.bl (decide (x = x))) S := by simpa using h
    exact ifF rfl (ifF rfl (ifF rfl (ifT rfl (ifT rfl g))))
  | tup xs => exact hd.elim
  | ref n => exact hd.elim
theorem lf_same {E : DEnds} {told due : Option D} {p : Nat} {ys : List D} (hy : ys.length ≤ 100000) : ∀ (k i : Nat) (r5 : Option D) (acc : List D) (S : Sto), i + k = ys.length → S[p]? = some (.lst (acc.map pr)) → acc.length + k ≤ 100000 →
    (∀ r5 S', Frm [p] S S' → S'[p]? = some (.lst ((acc ++ ys.drop i).map pr)) → E.nx [told, due, some (.ref p), some (.tup ys), some (.tup ys), r5] S') →
    forW noG (gNm 5) f1_law_same E ((List.range' i k).map fun (j : Nat) => D.int (0 + (j : Int))) [told, due, some (.ref p), some (.tup ys), some (.tup ys), r5] S
  | 0, i, r5, acc, S, hk, hp, hl, kk => by
    refine ⟨trivial, kk _ _ .refl ?_⟩
    rw [List.drop_of_length_le (by omega), List.append_nil]
    exact hp
  | k + 1, i, r5, acc, S, hk, hp, hl, kk => by
    have hi : i < ys.length := by omega
    have hg : atI ys (0 + (i : Int)) = some ys[i] := by
      rw [Int.zero_add]
      exact atI_nat (by simp [hi])
    refine ⟨trivial, mlst_at hp trivial, ?_⟩
    refine ix_at hg (ix_at hg ⟨sz (show 2 ≤ 1000 by decide), mlst_at hp ⟨?_, ?_⟩⟩)
    · have : 100000 < sizeLine := by decide
      simp
      omega
    · have lp := lt_of_get hp
      refine lf_same hy k (i + 1) _ (acc ++ [ys[i]]) _ (by omega) (by rw [List.getElem?_set_self lp]; simp) (by simp; omega) fun r5 S' f g => kk r5 S' ((Frm.set (by simp)).trans f) ?_
      rw [g, List.append_assoc, List.singleton_append, List.getElem_cons_drop]
theorem st_same {E : DEnds} {told due : Option D} {p k : Nat} {r : List D} {d : D} {S : Sto} {r3 r4 r5 : Option D} (pd : Pl d) (pl : Pls r) (hp : S[p]? = some (.lst ((r ++ [d]).map pr))) (hw : wts r + wt d ≤ 100000)
    (ih : ∀ (ds : List D) (S' : Sto) (r3 r4 r5 : Option D), wts ds < wts r + wt d → Pls ds → S'[p]? = some (.lst (ds.map pr)) → Frm [p] S S' → whileN c1_law_same b1_law_same E k [told, due, some (.ref p), r3, r4, r5] S') :
    whileN c1_law_same b1_law_same E (k + 1) [told, due, some (.ref p), r3, r4, r5] S := by
  have lp := lt_of_get hp
  have em : (r ++ [d]).map pr = r.map pr ++ [pr d] := by simp
  rw [em] at hp
  refine lst_at hp (ifT (by simp) ?_)
  have w0 := wt_pos d
  have hp' : (S.set p (.lst (r.map pr ++ [pr d]).dropLast))[p]? = some (.lst (r.map pr)) := by rw [List.getElem?_set_self lp, List.dropLast_concat]
  have f0 : Frm [p] S (S.set p (.lst (r.map pr ++ [pr d]).dropLast)) := .set (by simp)
  refine mlst_at hp (pop_snoc ⟨rfl, ?_⟩)
  have nx : whileN c1_law_same b1_law_same E k [told, due, some (.ref p), some d, some d, r5] (S.set p (.lst (r.map pr ++ [pr d]).dropLast)) :=
    ih r _ _ _ _ (by omega) pl hp' f0
  cases d with
  | non => refine ifF rfl (ifF rfl (sp_kind (d := .non) trivial ?_)); exact ifF rfl nx
  | bl b => refine ifF rfl (ifF rfl (sp_kind (d := .bl b) trivial ?_)); exact ifF rfl nx
  | int i => refine ifF rfl (ifF rfl (sp_kind (d := .int i) trivial ?_)); exact ifF rfl nx
  | str x => refine ifF rfl (ifF rfl (sp_kind (d := .str x) trivial ?_)); exact ifF rfl nx
  | ref n => exact (pl_ref pd).elim
  | tup xs =>
    rw [wt] at hw
    have lx := wts_len xs
    have eq : (!decide ((xs.length : Int) = (xs.length : Int))) = false := by simp
    refine ifT rfl ?_
    refine ifF rfl ?_
    refine ifF eq ?_
    refine ⟨⟨by omega, by omega⟩, ?_⟩
    have er : rangeD 0 ((xs.length : Int)).toNat = (List.range' 0 xs.length).map fun (j : Nat) => D.int (0 + (j : Int)) := by rw [Int.toNat_natCast, rangeD, List.range_eq_range']
    rw [er]
    have lr := wts_len r
    refine lf_same (by omega) xs.length 0 _ r _ (by omega) hp' (by omega) fun r5 S' f g => ?_
    rw [List.drop_zero] at g
    exact ih (r ++ xs) _ _ _ _ (by rw [wts_app, wt]; omega) (pls_app.mpr ⟨pl, pl_tup.mp pd⟩) g (f0.trans f)
theorem lp_same {E : DEnds} {told due : Option D} {p : Nat} : ∀ (k : Nat) (ds : List D) (S : Sto) (r3 r4 r5 : Option D), wts ds < k → Pls ds → S[p]? = some (.lst (ds.map pr)) → wts ds ≤ 100000 →
    (∀ (ρ : Ev) (S' : Sto), Frm [p] S S' → E.nx ρ S') → whileN c1_law_same b1_law_same E k [told, due, some (.ref p), r3, r4, r5] S := by
  intro k
  induction k with
  | zero => intro ds S r3 r4 r5 h; omega
  | succ k ih =>
    intro ds S r3 r4 r5 hk hpl hp hw kk
    by_cases hne : ds = []
    · subst hne
      exact lst_at hp (ifF rfl (kk _ _ .refl))
    obtain ⟨r, d, rfl⟩ := snoc_of hne
    rw [wts_app] at hk hw
    rw [pls_app] at hpl
    obtain ⟨pl, pd⟩ := hpl
    rw [pls_one] at pd
    have wd : wts [d] = wt d := wt_one
    rw [wd] at hk hw
    exact st_same pd pl hp hw fun ds' S' r3 r4 r5 hl hpl' hp' f => ih ds' S' r3 r4 r5 (by omega) hpl' hp' (by omega) fun ρ S'' f' => kk ρ S'' (f.trans f')
theorem sp_same {d : D} (pd : Pl d) (hw : wt d ≤ 100000) (h : ∀ S', Frm [] S S' → R (.bl true) S') : Cal w_law_same [d, d] S R Rx := by
  refine .mk ?_
  rw [w_law_same_eq]
  refine ⟨sz (show 2 ≤ 1000 by decide), sz (show 1 ≤ 1000 by decide), ?_⟩
  refine ⟨wt d + 1, lp_same (p := S.length) (wt d + 1) [d] _ none none none (by rw [wt_one]; omega) (pls_one.mpr pd) get_last (by rw [wt_one]; exact hw) fun ρ S' f => h S' ⟨?_, fun i hi _ => ?_⟩⟩
  · have := f.len
    simp at this
    omega
  · rw [f.at_ i (by simp; omega) (by simp; omega)]
    exact (Frm.app (W := []) _).at_ i hi (by simp)
/-! ### the deal of a script -/
theorem cut_map (ns : List Int) (k : Nat) : DL.cutD (ns.map D.int) none (some (k : Int)) = (ns.take k).map D.int := by
  unfold DL.cutD
  rw [HT.sIx_none, HT.sIx_nat, List.drop_zero, Nat.sub_zero, List.length_map, ← List.map_take]
  congr 1
  rw [List.take_eq_take_iff]
  omega
theorem lc1_deal {p n : Nat} {xs0 : List D} {a b : Option D} {M : Int} {Rq : Sto → Prop} (hM : 0 < M) (hne : p ≠ n) : ∀ (xs acc : List Int) (S : Sto), acc.length + xs.length ≤ 1000 → S[p]? = some (.lst xs0) → S[n]? = some (.lst (acc.map D.int)) →
    (∀ (cs : List Int) (S' : Sto), cs.length ≤ acc.length + xs.length → S'[n]? = some (.lst (cs.map D.int)) → Frm [n] S S' → Rq S') →
    lcW n (fun S => S[p]? = some (.lst xs0)) (gNm 5) tYesD v1_law_deal [a, b, some (.int M), none, none, none] Rq (xs.map D.int) S
  | [], acc, S, hl, hp, hn, k => ⟨hp, k acc S (by simp) hn .refl⟩
  | x :: xs, acc, S, hl, hp, hn, k => by
    have ln := lt_of_get hn
    simp only [List.length_cons] at hl
    refine ⟨hp, ifT rfl ⟨hM, mlst_at hn ⟨?_, ?_⟩⟩⟩
    · rw [List.length_map]
      exact small1000 (by omega)
    · refine lc1_deal hM hne xs (acc ++ [_]) _ (by simp; omega) (by rw [List.getElem?_set_ne (Ne.symm hne)]; exact hp) (by rw [List.getElem?_set_self ln, List.map_append]; rfl) fun cs S' h1 h2 h3 => k cs S' (by simp at *; omega) h2 ((Frm.set (by simp)).trans h3)
theorem lf_deal {p : Nat} {xs0 : List D} {a b M c3 : Option D} {E : DEnds} {S : Sto} (hp : S[p]? = some (.lst xs0)) : ∀ (xs : List Int) (mix : Int) (r5 : Option D), 0 ≤ mix → mix < 2 ^ 62 →
    (∀ (mix' : Int) r5, 0 ≤ mix' → mix' < 2 ^ 62 → (xs ≠ [] → mix' < 2147483647) → (xs = [] → mix' = mix) → E.nx [a, b, M, c3, some (.int mix'), r5] S) → forW (fun S => S[p]? = some (.lst xs0)) (gNm 5) f1_law_deal E (xs.map D.int) [a, b, M, c3, some (.int mix), r5] S
  | [], mix, r5, h0, h1, k => ⟨hp, k mix r5 h0 h1 (by simp) (by simp)⟩
  | x :: xs, mix, r5, h0, h1, k => by
    refine ⟨hp, ⟨room (n := 62) (m := 20) ?_ (by decide) (by decide) (by decide) (by decide), by decide, ?_⟩⟩
    · omega
    refine ⟨by decide, ?_⟩
    have p0 := Int.emod_nonneg (mix * 69621 + x % 2147483563 + 23) (show (2147483647 : Int) ≠ 0 by decide)
    have p1 := Int.emod_lt_of_pos (mix * 69621 + x % 2147483563 + 23) (show (0 : Int) < 2147483647 by decide)
    refine lf_deal hp xs _ _ p0 (by omega) fun mix' r5 g0 g1 g2 g3 => k mix' r5 g0 g1 (fun _ => ?_) (by simp)
    by_cases hx : xs = []
    · rw [g3 hx]; exact p1
    · exact g2 hx
theorem lc2_deal {p n : Nat} {xs0 : List D} {a b c d e : Option D} {Rq : Sto → Prop} (hne : p ≠ n) : ∀ (xs acc : List Int) (S : Sto), acc.length + xs.length ≤ 1000 → S[p]? = some (.lst xs0) → S[n]? = some (.lst (acc.map D.int)) →
    (∀ (cs : List Int) (S' : Sto), cs.length ≤ acc.length + xs.length → S'[n]? = some (.lst (cs.map D.int)) → Frm [n] S S' → Rq S') →
    lcW n (fun S => S[p]? = some (.lst xs0)) (gNm 5) q1_law_deal v2_law_deal [a, b, c, d, e, none] Rq (xs.map D.int) S
  | [], acc, S, hl, hp, hn, k => ⟨hp, k acc S (by simp) hn .refl⟩
  | x :: xs, acc, S, hl, hp, hn, k => by
    have ln := lt_of_get hn
    simp only [List.length_cons] at hl
    refine ⟨hp, ⟨by decide, ifB (fun _ => ?_) fun _ => lc2_deal hne xs acc S (by omega) hp hn fun cs S' h1 h2 h3 => k cs S' (by simp; omega) h2 h3⟩⟩
    refine mlst_at hn ⟨?_, ?_⟩
    · rw [List.length_map]
      exact small1000 (by omega)
    · refine lc2_deal hne xs (acc ++ [x]) _ (by simp; omega) (by rw [List.getElem?_set_ne (Ne.symm hne)]; exact hp) (by rw [List.getElem?_set_self ln, List.map_append]; rfl) fun cs S' h1 h2 h3 => k cs S' (by simp at *; omega) h2 ((Frm.set (by simp)).trans h3)
theorem sp_deal {ns : List Int} {salt : Int} (h0 : 0 ≤ salt) (h1 : salt < 100000) {q : Nat} (hq : S[q]? = some (.fix (ns.map D.int))) (k : ∀ n m S', S.length ≤ n → S.length ≤ m → Frm [] S S' → Deal n m S' → R (.ref n) S') : Cal w_law_deal [.ref q, .int salt] S R Rx := by
  refine .mk ?_
  rw [w_law_deal_eq]
  refine ⟨by decide, ⟨by decide, ⟨by decide +kernel, ⟨by decide, ⟨by decide +kernel, ⟨by decide, ⟨by decide +kernel, ⟨by decide, ⟨by decide +kernel, ⟨by decide, ⟨by decide +kernel, ?_⟩⟩⟩⟩⟩⟩⟩⟩⟩⟩⟩
  generalize hM : (10 : Int) ^ Int.toNat 64 * 10 ^ Int.toNat 64 * 10 ^ Int.toNat 64 * 10 ^ Int.toNat 64 * 10 ^ Int.toNat 64 * 10 ^ Int.toNat 64 = M
  have M0 : 0 < M := by rw [← hM]; decide +kernel
  clear hM
  refine fix_at hq ?_
  have ec : DL.cutD (ns.map D.int) none (some 63) = (ns.take 63).map D.int := cut_map ns 63
  rw [ec]
  have hl : (ns.take 63).length ≤ 63 := by simp; omega
  have g1 : (S ++ [Ob.lst ((ns.take 63).map D.int)])[S.length]? = some (.lst ((ns.take 63).map D.int)) := get_last
  refine iter_at g1 ?_
  have lenS1 : (S ++ [Ob.lst ((ns.take 63).map D.int)]).length = S.length + 1 := by simp
  have g2 : (S ++ [Ob.lst ((ns.take 63).map D.int)] ++ [Ob.lst []])[S.length]? = some (.lst ((ns.take 63).map D.int)) := (Frm.app (W := []) _).get0 g1
  refine lc1_deal M0 (by simp) (ns.take 63) [] _ (by simp; omega) g2 get_last fun cs S2 hc h2 f2 => ?_
  simp only [List.length_nil, Nat.zero_add] at hc
  rw [lenS1] at h2 f2 ⊢
  have F0 : Frm [] S S2 := by
    refine ⟨?_, fun i hi _ => ?_⟩
    · have := f2.len
      simp at this
      omega
    · rw [f2.at_ i (by simp; omega) (by simp; omega), List.getElem?_append_left (by simp; omega), List.getElem?_append_left hi]
  refine ⟨room (a := 7919) (b := salt) (n := 13) (m := 20) (by decide) (by omega) (by decide) (by decide) (by decide), ?_⟩
  refine iter_at h2 ?_
  refine lf_deal h2 cs _ _ (by omega) (by omega) fun mix' r5 m0 m1 m2 m3 => ?_
  refine iter_at h2 ?_
  have l2 := lt_of_get h2
  have g3 : (S2 ++ [Ob.lst []])[S.length + 1]? = some (.lst (cs.map D.int)) := (Frm.app (W := []) _).get0 h2
  refine lc2_deal (by omega) cs [] _ (by simp; omega) g3 get_last fun ds S3 hd h3 f3 => ?_
  simp only [List.length_nil, Nat.zero_add] at hd
  refine lst_at h3 ?_
  refine ⟨sz (show 2 ≤ 1000 by decide), ?_⟩
  have F1 : Frm [] S2 S3 := by
    refine ⟨?_, fun i hi _ => ?_⟩
    · have := f3.len
      simp at this
      omega
    · rw [f3.at_ i (by simp; omega) (by simp; omega), List.getElem?_append_left hi]
  have l0 := F0.len
  have l1 := F1.len
  refine k _ S3.length _ (by simp; omega) (by omega) ((F0.trans F1).trans ((Frm.app _).trans (Frm.app _))) ⟨by simp, ds.reverse, mix', get_last, ?_, by simp; omega, m0, ?_⟩
  · rw [List.getElem?_append_left (by simp), List.map_reverse]
    exact get_last
  · by_cases hx : cs = []
    · rw [m3 hx]; omega
    · exact m2 hx
theorem lt8 {a : Nat} (h : a < 2 ^ 20) : a < 2 ^ 8000 := Nat.lt_trans h (Nat.pow_lt_pow_right (by decide) (by decide))
theorem lt2 {a : Nat} (h : a < 2 ^ 20) : a < 2 ^ 2000 := Nat.lt_trans h (Nat.pow_lt_pow_right (by decide) (by decide))
theorem sp_of {n m q : Nat} {xs : List D} (d : Deal n m S) (hq : S[q]? = some (.lst xs)) (hn : q ∉ [n, m]) (h0 : 0 < xs.length) (h1 : xs.length ≤ 1000) (k : ∀ d S', d ∈ xs → Frm [n, m] S S' → Deal n m S' → R d S') : Cal w_law_of [.ref n, .ref q] S R Rx := by
  refine .mk ?_
  rw [w_law_of_eq]
  refine lst_at hq (sp_any d (by omega) (lt8 (by omega)) fun r S' r0 r1 f d' => ?_)
  have hq' := f.get hq hn
  obtain ⟨j, rfl⟩ : ∃ j : Nat, r = (j : Int) := ⟨r.toNat, by omega⟩
  have hl : j < xs.length := by omega
  exact lst_at hq' (ix_at (d := xs[j]) (atI_nat (by simp [hl])) (k _ S' (List.getElem_mem hl) f d'))
/-- a fraction of numbers that are not too wide -/
structure Qs (q : Int × Int) : Prop where
  t : q.1.natAbs < 2 ^ 2000
  b : q.2.natAbs < 2 ^ 2000
  n : q.2 ≠ 0
theorem mul_small {a b : Int} {n m : Nat} (ha : a.natAbs < 2 ^ n) (hb : b.natAbs < 2 ^ m) : (a * b).natAbs < 2 ^ (n + m) := by
  rw [Int.natAbs_mul, Nat.pow_add]
  exact Nat.mul_lt_mul'' ha hb
theorem mul8 {a b : Int} (ha : a.natAbs < 2 ^ 2000) (hb : b.natAbs < 2 ^ 2000) : (a * b).natAbs < 2 ^ 8000 := Nat.lt_trans (mul_small ha hb) (Nat.pow_lt_pow_right (by decide) (by decide))
theorem rm {a b : Int} (ha : a.natAbs < 2 ^ 2000) (hb : b.natAbs < 2 ^ 2000) : a.natAbs.log2 + b.natAbs.log2 < 1000000 := room ha hb (by decide) (by decide) (by decide)
abbrev qAdd (a b : Int × Int) : Int × Int := frac (a.1 * b.2 + b.1 * a.2) (a.2 * b.2)
abbrev qMul (a b : Int × Int) : Int × Int := frac (a.1 * b.1) (a.2 * b.2)
theorem sp_ratio_plus {a b : Int × Int} (ha : Qs a) (hb : Qs b) (h : R (qD (qAdd a b)) S) : Cal w_ratio_plus [qD a, qD b] S R Rx := by
  refine .mk ?_
  rw [w_ratio_plus_eq]
  exact ix_at rfl (ix_at rfl ⟨rm ha.t hb.b, ix_at rfl (ix_at rfl ⟨rm hb.t ha.b, ix_at rfl (ix_at rfl ⟨rm ha.b hb.b, sp_ratio (Int.mul_ne_zero ha.n hb.n) (mul8 ha.b hb.b) h⟩)⟩)⟩)
theorem sp_ratio_times {a b : Int × Int} (ha : Qs a) (hb : Qs b) (h : R (qD (qMul a b)) S) : Cal w_ratio_times [qD a, qD b] S R Rx := by
  refine .mk ?_
  rw [w_ratio_times_eq]
  exact ix_at rfl (ix_at rfl ⟨rm ha.t hb.t, ix_at rfl (ix_at rfl ⟨rm ha.b hb.b, sp_ratio (Int.mul_ne_zero ha.n hb.n) (mul8 ha.b hb.b) h⟩)⟩)
theorem sp_lplus {a b : Int × Int} (ha : Qs a) (hb : Qs b) (h : R (qD (qAdd a b)) S) : Cal w_law_plus [qD a, qD b] S R Rx := by
  refine .mk ?_
  rw [w_law_plus_eq]
  exact ix_at rfl (ix_at rfl ⟨rm ha.t hb.b, ix_at rfl (ix_at rfl ⟨rm hb.t ha.b, ix_at rfl (ix_at rfl ⟨rm ha.b hb.b, sp_lratio (Int.mul_ne_zero ha.n hb.n) (mul8 ha.b hb.b) h⟩)⟩)⟩)
theorem sp_ltimes {a b : Int × Int} (ha : Qs a) (hb : Qs b) (h : R (qD (qMul a b)) S) : Cal w_law_times [qD a, qD b] S R Rx := by
  refine .mk ?_
  rw [w_law_times_eq]
  exact ix_at rfl (ix_at rfl ⟨rm ha.t hb.t, ix_at rfl (ix_at rfl ⟨rm ha.b hb.b, sp_lratio (Int.mul_ne_zero ha.n hb.n) (mul8 ha.b hb.b) h⟩)⟩)
/-! ### fractions as rationals -/
def qR (x : Rat) : Int × Int := (x.num, (x.den : Int))
theorem frac_eq {t b : Int} (hb : b ≠ 0) : frac t b = qR (Rat.divInt t b) := by
  unfold frac qR
  rw [Rat.num_divInt, Rat.den_divInt, if_neg hb]
  have g1 : gcdZ t b = ((Int.gcd b t : Nat) : Int) := by unfold gcdZ; rw [Int.gcd_comm]
  rw [g1]
  split
  · rename_i h
    have e : ((b.natAbs : Nat) : Int) = -b := by omega
    rw [Int.sign_eq_neg_one_of_neg h]
    ext
    · simp
    · simp only [Int.natCast_ediv, e]
  · rename_i h
    have e : ((b.natAbs : Nat) : Int) = b := by omega
    rw [Int.sign_eq_one_of_pos (by omega)]
    ext
    · simp
    · simp only [Int.natCast_ediv, e]
theorem den_ne (x : Rat) : (x.den : Int) ≠ 0 := by
  have := x.den_nz
  omega
theorem qAdd_R (x y : Rat) : qAdd (qR x) (qR y) = qR (x + y) := by
  have h : (x.den : Int) * (y.den : Int) ≠ 0 := Int.mul_ne_zero (den_ne x) (den_ne y)
  show frac (x.num * y.den + y.num * x.den) (x.den * y.den) = _
  rw [frac_eq h, ← Rat.divInt_add_divInt _ _ (den_ne x) (den_ne y), Rat.num_divInt_den, Rat.num_divInt_den]
theorem qMul_R (x y : Rat) : qMul (qR x) (qR y) = qR (x * y) := by
  have h : (x.den : Int) * (y.den : Int) ≠ 0 := Int.mul_ne_zero (den_ne x) (den_ne y)
  show frac (x.num * y.num) (x.den * y.den) = _
  rw [frac_eq h, ← Rat.divInt_mul_divInt _ _, Rat.num_divInt_den, Rat.num_divInt_den]
theorem qR_int (n : Int) : qR (n : Rat) = (n, 1) := rfl
/-- a rational of numbers below 2 ^ k -/
structure Sz (k : Nat) (x : Rat) : Prop where
  t : x.num.natAbs < 2 ^ k
  b : x.den < 2 ^ k
theorem Sz.qs {k : Nat} {x : Rat} (h : Sz k x) (hk : k ≤ 2000) : Qs (qR x) := by
  have e : 2 ^ k ≤ 2 ^ 2000 := Nat.pow_le_pow_right (by decide) hk
  refine ⟨Nat.lt_of_lt_of_le h.t e, ?_, den_ne x⟩
  show ((x.den : Int)).natAbs < _
  rw [Int.natAbs_natCast]
  exact Nat.lt_of_lt_of_le h.b e
theorem Sz.mono {k l : Nat} {x : Rat} (h : Sz k x) (hk : k ≤ l) : Sz l x := by
  have e : 2 ^ k ≤ 2 ^ l := Nat.pow_le_pow_right (by decide) hk
  exact ⟨Nat.lt_of_lt_of_le h.t e, Nat.lt_of_lt_of_le h.b e⟩
theorem frac_le {t b : Int} (hb : b ≠ 0) : (frac t b).1.natAbs ≤ t.natAbs ∧ (frac t b).2.natAbs ≤ b.natAbs := by
  have g0 := gcd_pos (a := t) hb
  have go : ∀ x : Int, (x / gcdZ t b).natAbs ≤ x.natAbs := fun x => Int.natAbs_ediv_le_natAbs x _
  unfold frac
  split
  · have h1 := go (-t)
    have h2 := go (-b)
    rw [Int.natAbs_neg] at h1 h2
    exact ⟨h1, h2⟩
  · exact ⟨go t, go b⟩
theorem Sz.of_frac {k : Nat} {t b : Int} {x : Rat} (hb : b ≠ 0) (e : frac t b = qR x) (ht : t.natAbs < 2 ^ k) (h : b.natAbs < 2 ^ k) : Sz k x := by
  obtain ⟨h1, h2⟩ := frac_le (t := t) hb
  rw [e] at h1 h2
  refine ⟨Nat.lt_of_le_of_lt h1 ht, ?_⟩
  have h3 : ((x.den : Int)).natAbs ≤ b.natAbs := h2
  rw [Int.natAbs_natCast] at h3
  exact Nat.lt_of_le_of_lt h3 h
theorem Sz.den {k : Nat} {x : Rat} (h : Sz k x) : ((x.den : Int)).natAbs < 2 ^ k := by
  rw [Int.natAbs_natCast]
  exact h.b
theorem Sz.add {i j : Nat} {x y : Rat} (hx : Sz i x) (hy : Sz j y) : Sz (i + j + 1) (x + y) := by
  refine .of_frac (Int.mul_ne_zero (den_ne x) (den_ne y)) (qAdd_R x y) ?_ ?_
  · have h1 := mul_small hx.t hy.den
    have h2 := mul_small hy.t hx.den
    rw [Nat.add_comm j i] at h2
    have e : 2 ^ (i + j + 1) = 2 ^ (i + j) + 2 ^ (i + j) := by rw [Nat.pow_succ]; omega
    rw [e]
    exact Nat.lt_of_le_of_lt (Int.natAbs_add_le _ _) (Nat.add_lt_add h1 h2)
  · exact Nat.lt_of_lt_of_le (mul_small hx.den hy.den) (Nat.pow_le_pow_right (by decide) (by omega))
theorem Sz.mul {i j : Nat} {x y : Rat} (hx : Sz i x) (hy : Sz j y) : Sz (i + j) (x * y) :=
  .of_frac (Int.mul_ne_zero (den_ne x) (den_ne y)) (qMul_R x y) (mul_small hx.t hy.t) (mul_small hx.den hy.den)
theorem Sz.int {k : Nat} {n : Int} (h : n.natAbs < 2 ^ k) (hk : 0 < k) : Sz k (n : Rat) :=
  ⟨h, Nat.one_lt_two_pow (by omega)⟩
abbrev rD (x : Rat) : D := qD (qR x)
/-! ### comprehensions of draws -/
theorem choose_map {α : Type} {f : α → D} {Q : α → Prop} : ∀ {ds : List D}, (∀ d ∈ ds, ∃ x, d = f x ∧ Q x) → ∃ xs : List α, ds = xs.map f ∧ ∀ x ∈ xs, Q x
  | [], _ => ⟨[], rfl, by simp⟩
  | d :: ds, h => by
    obtain ⟨x, rfl, hx⟩ := h d (by simp)
    obtain ⟨xs, rfl, hxs⟩ := choose_map (ds := ds) fun d hd => h d (by simp [hd])
    exact ⟨x :: xs, rfl, fun y hy => by
      rcases List.mem_cons.mp hy with rfl | hy
      · exact hx
      · exact hxs y hy⟩
theorem lc_draw {n m i : Nat} {te : TD} {ρ : Ev} {Rq : Sto → Prop} {xs : List D} (P : D → Prop) (d : Deal n m S) (hl : xs.length ≤ 100000)
    (ht : ∀ x ∈ xs, ∀ S R, Deal n m S → (∀ d S', P d → Frm [n, m] S S' → Deal n m S' → R d S') → te noX (ρ.set i (some x)) S R)
    (k : ∀ ds S', ds.length = xs.length → (∀ d ∈ ds, P d) → Frm [n, m] S S' → Deal n m S' → S'[S.length]? = some (.lst ds) → Rq S') :
    lcW S.length noG (gNm i) tYesD te ρ Rq xs (S ++ [.lst []]) := by
  obtain ⟨hn, hm⟩ := d.lt
  refine lc_ind (fun j acc S' => acc.length = j ∧ j ≤ xs.length ∧ (∀ d ∈ acc, P d) ∧ Frm [n, m] S S' ∧ Deal n m S' ∧ S'[S.length]? = some (.lst acc)) xs (fun j acc S' h => ⟨trivial, h.2.2.2.2.2, by omega⟩) ?_ ⟨rfl, Nat.zero_le _, by simp, .app _, d.frm0 (.app _), get_last⟩ fun acc S' h => k acc S' h.1 h.2.2.1 h.2.2.2.1 h.2.2.2.2.1 h.2.2.2.2.2
  rintro j x acc S' R Z hx ⟨h1, h2, h3, h4, h5, h6⟩ kk _
  have hj := lt_of_get hx
  refine ifT rfl (ht x (List.mem_of_getElem? hx) S' R h5 fun e S'' he f d' => ?_)
  have hq : S''[S.length]? = some (.lst acc) := f.get h6 (by simp; omega)
  have lq := lt_of_get hq
  refine kk e S'' hq ⟨by simp [h1], hj, ?_, (h4.trans f).setNew (Nat.le_refl _), ?_, by rw [List.getElem?_set_self lq]⟩
  · intro y hy
    rcases List.mem_append.mp hy with h | h
    · exact h3 y h
    · rw [List.mem_singleton.mp h]; exact he
  · obtain ⟨ne, cs, mix, g1, g2, g3⟩ := d'
    exact ⟨ne, cs, mix, by rw [List.getElem?_set_ne (by omega)]; exact g1, by rw [List.getElem?_set_ne (by omega)]; exact g2, g3⟩
theorem rat_of {q : Int × Int} (hb : q.2 ≠ 0) (e : frac q.1 q.2 = q) (h1 : q.1.natAbs < 2 ^ 6) (h2 : q.2.natAbs < 2 ^ 6) : ∃ x, q = qR x ∧ Sz 6 x :=
  ⟨_, e.symm.trans (frac_eq hb), .of_frac hb (frac_eq hb) h1 h2⟩
abbrev pL : List (Int × Int) := [(0, 1), (1, 1), (2, 1), (3, 1), (5, 1), (1, 2), (3, 2), (2, 3), (7, 4), (11, 12), (40, 1)]
abbrev lL : List (Int × Int) := [(0, 1), (0, 1), (1, 1), (2, 1), (3, 1), (1, 2), (3, 2)]
theorem pL_ok : ∀ q ∈ pL, ∃ x, q = qR x ∧ Sz 6 x := by
  have h : ∀ q ∈ pL, q.2 ≠ 0 ∧ frac q.1 q.2 = q ∧ q.1.natAbs < 2 ^ 6 ∧ q.2.natAbs < 2 ^ 6 := by decide +kernel
  exact fun q hq => rat_of (h q hq).1 (h q hq).2.1 (h q hq).2.2.1 (h q hq).2.2.2
theorem lL_ok : ∀ q ∈ lL, ∃ x, q = qR x ∧ Sz 6 x := by
  have h : ∀ q ∈ lL, q.2 ≠ 0 ∧ frac q.1 q.2 = q ∧ q.1.natAbs < 2 ^ 6 ∧ q.2.natAbs < 2 ^ 6 := by decide +kernel
  exact fun q hq => rat_of (h q hq).1 (h q hq).2.1 (h q hq).2.2.1 (h q hq).2.2.2
theorem sp_law_price {n m : Nat} (d : Deal n m S) (k : ∀ x S', Sz 6 x → Frm [n, m] S S' → Deal n m S' → R (rD x) S') : Cal w_law_price [.ref n] S R Rx := by
  refine .mk ?_
  obtain ⟨hn, hm⟩ := d.lt
  rw [w_law_price_eq]
  have z2 : 2 ≤ sizeLine := by decide
  have z11 : 11 ≤ sizeLine := by decide
  refine ⟨z2, z2, z2, z2, z2, z2, z2, z2, z2, z2, z2, z11, ?_⟩
  have f0 : Frm [] S (S ++ [Ob.lst (pL.map qD)]) := .app _
  refine sp_of (xs := pL.map qD) (d.frm0 f0) get_last (by simp; omega) (by decide) (by decide) fun x S' hx f d' => ?_
  obtain ⟨q, hq, rfl⟩ := List.mem_map.mp hx
  obtain ⟨x, rfl, hs⟩ := pL_ok q hq
  exact k x S' hs (f0.nil.trans f) d'
theorem sp_low {n m : Nat} (d : Deal n m S) (k : ∀ x S', Sz 6 x → Frm [n, m] S S' → Deal n m S' → R (rD x) S') : Cal w_law_low_price [.ref n] S R Rx := by
  refine .mk ?_
  obtain ⟨hn, hm⟩ := d.lt
  rw [w_law_low_price_eq]
  have z2 : 2 ≤ sizeLine := by decide
  have z7 : 7 ≤ sizeLine := by decide
  refine ⟨z2, z2, z2, z2, z2, z2, z2, z7, ?_⟩
  have f0 : Frm [] S (S ++ [Ob.lst (lL.map qD)]) := .app _
  refine sp_of (xs := lL.map qD) (d.frm0 f0) get_last (by simp; omega) (by decide) (by decide) fun x S' hx f d' => ?_
  obtain ⟨q, hq, rfl⟩ := List.mem_map.mp hx
  obtain ⟨x, rfl, hs⟩ := lL_ok q hq
  exact k x S' hs (f0.nil.trans f) d'
def payD (p : Rat × List Int) : D := .tup [rD p.1, .tup (p.2.map D.int)]
structure Pay (many : Nat) (p : Rat × List Int) : Prop where
  c : Sz 6 p.1
  l : p.2.length = many
  n : ∀ v ∈ p.2, v.natAbs < 2 ^ 4
theorem sp_drawn_pay {n m many : Nat} (d : Deal n m S) (hm : many ≤ 4) (k : ∀ p S', Pay many p → Frm [n, m] S S' → Deal n m S' → R (payD p) S') : Cal w_law_drawn_pay [.ref n, .int (many : Int), .int 9] S R Rx := by
  refine .mk ?_
  rw [w_law_drawn_pay_eq]
  refine sp_low d fun x S1 hx f1 d1 => ?_
  refine ⟨⟨by omega, by omega⟩, ?_⟩
  refine lc_draw (fun d => ∃ v : Int, d = .int v ∧ v.natAbs < 2 ^ 4) d1 (by rw [range_len]; omega) (fun x _ S R d k => ?_) fun ds S2 hl hp f2 d2 hq => ?_
  · exact sp_any d (by decide) (lt8 (by decide)) fun r S' r0 r1 f d' => k _ S' ⟨r, rfl, by omega⟩ f d'
  · obtain ⟨ns, rfl, hns⟩ := choose_map hp
    rw [range_len] at hl
    refine lst_at hq ⟨sz (show 2 ≤ 1000 by decide), k (x, ns) S2 ⟨hx, ?_, hns⟩ (f1.trans f2) d2⟩
    simpa using hl
theorem sp_drawn_pays {n m many size : Nat} (d : Deal n m S) (hm : many ≤ 4) (hs : size ≤ 5) (k : ∀ (ps : List (Rat × List Int)) q S', ps.length = size → (∀ p ∈ ps, Pay many p) → Frm [n, m] S S' → Deal n m S' → S'[q]? = some (.lst (ps.map payD)) → R (.ref q) S') :
    Cal w_law_drawn_pays [.ref n, .int (many : Int), .int (size : Int), .int 9] S R Rx := by
  refine .mk ?_
  rw [w_law_drawn_pays_eq]
  refine ⟨⟨by omega, by omega⟩, ?_⟩
  refine lc_draw (fun d => ∃ p, d = payD p ∧ Pay many p) d (by rw [range_len]; omega) (fun x _ S R d k => ?_) fun ds S2 hl hp f2 d2 hq => ?_
  · exact sp_drawn_pay d hm fun p S' hp f d' => k _ S' ⟨p, rfl, hp⟩ f d'
  · obtain ⟨ps, rfl, hps⟩ := choose_map hp
    rw [range_len] at hl
    exact k ps _ S2 (by simpa using hl) hps f2 d2 hq
theorem sum_bd : ∀ {ns : List Int} {b : Nat}, (∀ v ∈ ns, 0 ≤ v ∧ v < 4) → ns.length ≤ b → 0 ≤ ns.sum ∧ ns.sum ≤ 3 * b
  | [], b, _, _ => by simp; omega
  | n :: ns, b, h, hl => by
    simp only [List.length_cons] at hl
    have h1 := h n (by simp)
    have h2 := sum_bd (ns := ns) (b := b - 1) (fun v hv => h v (by simp [hv])) (by omega)
    simp only [List.sum_cons]
    omega
theorem sum_pos : ∀ {ns : List Int} {j : Nat} {v : Int}, (∀ v ∈ ns, 0 ≤ v ∧ v < 4) → ns[j]? = some v → 0 < v → 0 < ns.sum
  | [], _, _, _, h, _ => by simp at h
  | n :: ns, 0, v, h, hj, hv => by
    simp at hj
    subst hj
    have h2 := sum_bd (ns := ns) (b := ns.length) (fun v hv => h v (by simp [hv])) (Nat.le_refl _)
    simp only [List.sum_cons]
    omega
  | n :: ns, j + 1, v, h, hj, hv => by
    have h1 := h n (by simp)
    have h2 := sum_pos (ns := ns) (j := j) (v := v) (fun v hv => h v (by simp [hv])) (by simpa using hj) hv
    simp only [List.sum_cons]
    omega
theorem sp_drawn_weights {n m size : Nat} (d : Deal n m S) (h0 : 0 < size) (hs : size ≤ 5) (k : ∀ (ws : List Rat) S', ws.length = size → (∀ w ∈ ws, Sz 6 w) → Frm [n, m] S S' → Deal n m S' → R (.tup (ws.map rD)) S') :
    Cal w_law_drawn_weights [.ref n, .int (size : Int)] S R Rx := by
  refine .mk ?_
  obtain ⟨ln, lm⟩ := d.lt
  rw [w_law_drawn_weights_eq]
  refine ⟨⟨by omega, by omega⟩, ?_⟩
  refine lc_draw (fun d => ∃ v : Int, d = .int v ∧ (0 ≤ v ∧ v < 4)) d (by rw [range_len]; omega) (fun x _ S R d k => ?_) fun ds S1 hl hp f1 d1 hq => ?_
  · exact sp_any d (by decide) (lt8 (by decide)) fun r S' r0 r1 f d' => k _ S' ⟨r, rfl, r0, r1⟩ f d'
  obtain ⟨ns, rfl, hns⟩ := choose_map hp
  rw [range_len] at hl
  have hl' : ns.length = size := by simpa using hl
  refine sp_any d1 (by decide) (lt8 (by decide)) fun r S2 r0 r1 f2 d2 => ?_
  refine sp_any d2 (by omega) (lt8 (by omega)) fun j S3 j0 j1 f3 d3 => ?_
  have g3 : S3[S.length]? = some (.lst (ns.map D.int)) := f3.get (f2.get hq (by simp; omega)) (by simp; omega)
  obtain ⟨j, rfl⟩ : ∃ i : Nat, j = (i : Int) := ⟨j.toNat, by omega⟩
  have hj : j < ns.length := by omega
  refine mlst_at g3 (set_k (by simpa using hj) ?_)
  have l3 := lt_of_get g3
  have em : (ns.map D.int).set j (.int (1 + r)) = (ns.set j (1 + r)).map D.int := by rw [List.map_set]
  have g4 : (S3.set S.length (.lst ((ns.map D.int).set j (.int (1 + r)))))[S.length]? = some (.lst ((ns.set j (1 + r)).map D.int)) := by rw [em, List.getElem?_set_self l3]
  have f4 : Frm [n, m] S (S3.set S.length (.lst ((ns.map D.int).set j (.int (1 + r))))) := (f1.trans (f2.trans f3)).setNew (Nat.le_refl _)
  have d4 : Deal n m (S3.set S.length (.lst ((ns.map D.int).set j (.int (1 + r))))) := by
    obtain ⟨ne, cs, mix, a1, a2, a3⟩ := d3
    exact ⟨ne, cs, mix, by rw [List.getElem?_set_ne (by omega)]; exact a1, by rw [List.getElem?_set_ne (by omega)]; exact a2, a3⟩
  generalize S3.set S.length (.lst ((ns.map D.int).set j (.int (1 + r)))) = S4 at g4 f4 d4 ⊢
  have hb : ∀ v ∈ ns.set j (1 + r), 0 ≤ v ∧ v < 4 := fun v hv => by
    rcases List.mem_or_eq_of_mem_set hv with h | h
    · exact hns v h
    · omega
  have hl2 : (ns.set j (1 + r)).length = size := by rw [List.length_set]; exact hl'
  have hpos : 0 < (ns.set j (1 + r)).sum := sum_pos hb (List.getElem?_set_self hj) (by omega)
  have hle := (sum_bd hb (Nat.le_of_eq hl2)).2
  generalize ns.set j (1 + r) = zs at g4 hb hl2 hpos hle ⊢
  refine iter_at g4 ?_
  have l4 := lt_of_get g4
  have hle5 : zs.sum < 2 ^ 6 := by omega
  refine lc_ind (fun i acc S' => i ≤ zs.length ∧ acc = (zs.take i).map (fun z => rD (Rat.divInt z zs.sum)) ∧ Frm [] S4 S' ∧ S'[S4.length]? = some (.lst acc)) (zs.map D.int) (fun i acc S' h => ⟨h.2.2.1.get0 g4, h.2.2.2, ?_⟩) ?_ ⟨Nat.zero_le _, rfl, .app _, get_last⟩ fun acc S' h => ?_
  · rw [h.2.1]
    simp
    omega
  · rintro i x acc S' R Z hx ⟨h1, h2, h3, h4⟩ kk _
    have hi := lt_of_get hx
    rw [List.length_map] at hi
    rw [List.getElem?_map, List.getElem?_eq_getElem hi] at hx
    cases hx
    have hz := hb zs[i] (List.getElem_mem hi)
    refine ifT rfl (lst_at (h3.get0 g4) ⟨zs, rfl, sp_lratio (by omega) (lt8 (by omega)) ?_⟩)
    have lq := lt_of_get h4
    rw [frac_eq (by omega)]
    refine kk _ S' h4 ⟨hi, ?_, h3.setNew (Nat.le_refl _), by rw [List.getElem?_set_self lq]⟩
    rw [h2, List.take_succ_eq_append_getElem hi, List.map_append]
    rfl
  · obtain ⟨h1, h2, h3, h4⟩ := h
    rw [List.length_map, List.take_length] at h2
    refine lst_at h4 ?_
    have e : zs.map (fun z => rD (Rat.divInt z zs.sum)) = (zs.map fun z => Rat.divInt z zs.sum).map rD := by rw [List.map_map]; rfl
    rw [h2, e]
    refine k _ S' (by simpa using hl2) (fun w hw => ?_) (f4.trans h3.nil) (d4.frm0 h3)
    obtain ⟨z, hz, rfl⟩ := List.mem_map.mp hw
    have hz' := hb z hz
    exact .of_frac (by omega) (frac_eq (by omega)) (by omega) (by omega)
/-! ### what is mixed, what is paid -/
section
variable (ws : List Rat) (ps : List (Rat × List Int)) (prs : List Rat)
def wOf_ (j : Nat) : Rat := ws.getD j 0
def cOf (j : Nat) : Rat := (ps.getD j (0, [])).1
def nOf (j s : Nat) : Rat := (((ps.getD j (0, [])).2.getD s 0 : Int) : Rat)
def prOf (s : Nat) : Rat := prs.getD s 0
def Pj : Nat → Rat
  | 0 => 0
  | j + 1 => Pj j + wOf_ ws j * cOf ps j
def Cj (s : Nat) : Nat → Rat
  | 0 => 0
  | j + 1 => Cj s j + wOf_ ws j * nOf ps j s
def Wh (J : Nat) : Nat → Rat
  | 0 => Pj ws ps J
  | s + 1 => Wh J s + Cj ws ps s J * prOf prs s
def Pd (p : Rat × List Int) : Nat → Rat
  | 0 => p.1
  | s + 1 => Pd p s + ((p.2.getD s 0 : Int) : Rat) * prOf prs s
def Wo (M : Nat) : Nat → Rat
  | 0 => 0
  | j + 1 => Wo M j + wOf_ ws j * Pd prs (ps.getD j (0, [])) M
theorem wh_step (J : Nat) : ∀ M, Wh ws ps prs (J + 1) M = Wh ws ps prs J M + wOf_ ws J * Pd prs (ps.getD J (0, [])) M
  | 0 => rfl
  | M + 1 => by
    have h := wh_step J M
    show Wh ws ps prs (J + 1) M + (Cj ws ps M J + wOf_ ws J * nOf ps J M) * prOf prs M = (Wh ws ps prs J M + Cj ws ps M J * prOf prs M) + wOf_ ws J * (Pd prs (ps.getD J (0, [])) M + (((ps.getD J (0, [])).2.getD M 0 : Int) : Rat) * prOf prs M)
    have e : (((ps.getD J (0, [])).2.getD M 0 : Int) : Rat) = nOf ps J M := rfl
    rw [h, e]
    grind
theorem wh_0 : ∀ M, Wh ws ps prs 0 M = 0
  | 0 => rfl
  | M + 1 => by
    show Wh ws ps prs 0 M + 0 * prOf prs M = 0
    rw [wh_0 M, Rat.zero_mul, Rat.add_zero]
theorem wo_wh (M : Nat) : ∀ J, Wo ws ps prs M J = Wh ws ps prs J M
  | 0 => (wh_0 ws ps prs M).symm
  | J + 1 => by
    show Wo ws ps prs M J + _ = _
    rw [wo_wh M J, wh_step]
end
section
variable {ws : List Rat} {ps : List (Rat × List Int)} {prs : List Rat} {many : Nat}
/-- a turn's data -/
structure Ok (ws : List Rat) (ps : List (Rat × List Int)) (prs : List Rat) (many : Nat) : Prop where
  w : ∀ w ∈ ws, Sz 6 w
  p : ∀ p ∈ ps, Pay many p
  r : ∀ r ∈ prs, Sz 6 r
  m : many ≤ 4
  l : ws.length = ps.length
  l5 : ps.length ≤ 5
  lr : prs.length = many
theorem sz0 : Sz 1 (0 : Rat) := ⟨by decide, by decide⟩
theorem Ok.wz (o : Ok ws ps prs many) (j : Nat) : Sz 6 (wOf_ ws j) := by
  unfold wOf_
  rw [List.getD_eq_getElem?_getD]
  cases h : ws[j]? with
  | none => exact sz0.mono (by decide)
  | some w => exact o.w w (List.mem_of_getElem? h)
theorem Ok.rz (o : Ok ws ps prs many) (j : Nat) : Sz 6 (prOf prs j) := by
  unfold prOf
  rw [List.getD_eq_getElem?_getD]
  cases h : prs[j]? with
  | none => exact sz0.mono (by decide)
  | some w => exact o.r w (List.mem_of_getElem? h)
theorem Ok.cz (o : Ok ws ps prs many) (j : Nat) : Sz 6 (cOf ps j) := by
  unfold cOf
  rw [List.getD_eq_getElem?_getD]
  cases h : ps[j]? with
  | none => exact sz0.mono (by decide)
  | some p => exact (o.p p (List.mem_of_getElem? h)).c
theorem sz_nat {p : Rat × List Int} (h : Pay many p) (s : Nat) : (p.2.getD s 0).natAbs < 2 ^ 4 := by
  rw [List.getD_eq_getElem?_getD]
  cases e : p.2[s]? with
  | none => decide
  | some v => exact h.n v (List.mem_of_getElem? e)
theorem Ok.nz (o : Ok ws ps prs many) (j s : Nat) : Sz 4 (nOf ps j s) := by
  unfold nOf
  cases h : ps[j]? with
  | none =>
    have e : ps.getD j (0, []) = (0, []) := by rw [List.getD_eq_getElem?_getD, h]; rfl
    rw [e]
    exact sz0.mono (show 1 ≤ 4 by decide)
  | some p =>
    have e : ps.getD j (0, []) = p := by rw [List.getD_eq_getElem?_getD, h]; rfl
    rw [e]
    exact .int (sz_nat (o.p p (List.mem_of_getElem? h)) s) (by decide)
theorem Ok.pj (o : Ok ws ps prs many) : ∀ j, Sz (1 + 13 * j) (Pj ws ps j)
  | 0 => sz0
  | j + 1 => ((o.pj j).add ((o.wz j).mul (o.cz j))).mono (by omega)
theorem Ok.cj (o : Ok ws ps prs many) (s : Nat) : ∀ j, Sz (1 + 13 * j) (Cj ws ps s j)
  | 0 => sz0
  | j + 1 => ((o.cj s j).add ((o.wz j).mul (o.nz j s))).mono (by omega)
theorem Ok.wh (o : Ok ws ps prs many) {J : Nat} (hJ : J ≤ 5) : ∀ s, Sz (66 + 73 * s) (Wh ws ps prs J s)
  | 0 => (o.pj J).mono (by omega)
  | s + 1 => ((o.wh hJ s).add ((o.cj s J).mul (o.rz s))).mono (by omega)
theorem Ok.pd (o : Ok ws ps prs many) {p : Rat × List Int} (hp : Pay many p) : ∀ s, Sz (6 + 11 * s) (Pd prs p s)
  | 0 => hp.c
  | s + 1 => ((o.pd hp s).add ((Sz.int (sz_nat hp s) (by decide)).mul (o.rz s))).mono (by omega)
theorem Ok.wo (o : Ok ws ps prs many) : ∀ j, j ≤ ps.length → Sz (1 + 57 * j) (Wo ws ps prs many j)
  | 0, _ => sz0
  | j + 1, h => by
    have hp : Pay many (ps.getD j (0, [])) := by
      rw [List.getD_eq_getElem?_getD, List.getElem?_eq_getElem (by omega)]
      exact o.p _ (List.getElem_mem _)
    have hm := o.m
    exact ((o.wo j (by omega)).add ((o.wz j).mul (o.pd hp many))).mono (by omega)
end
/-! each step of the program's sums -/
theorem st_rp {i j k : Nat} {a w x : Rat} (ha : Sz i a) (hw : Sz j w) (hx : Sz k x) (hi : i ≤ 1000) (hj : j ≤ 500) (hk : k ≤ 500) (h : R (rD (a + w * x)) S) :
    Cal w_ratio_times [rD w, rD x] S (fun z S1 => Cal w_ratio_plus [rD a, z] S1 R Rx) Rx := by
  refine sp_ratio_times (hw.qs (by omega)) (hx.qs (by omega)) ?_
  rw [qMul_R]
  refine sp_ratio_plus (ha.qs (by omega)) ((hw.mul hx).qs (by omega)) ?_
  rw [qAdd_R]
  exact h
theorem st_lp {i j k : Nat} {a w x : Rat} (ha : Sz i a) (hw : Sz j w) (hx : Sz k x) (hi : i ≤ 1000) (hj : j ≤ 500) (hk : k ≤ 500) (h : R (rD (a + w * x)) S) :
    Cal w_law_times [rD w, rD x] S (fun z S1 => Cal w_law_plus [rD a, z] S1 R Rx) Rx := by
  refine sp_ltimes (hw.qs (by omega)) (hx.qs (by omega)) ?_
  rw [qMul_R]
  refine sp_lplus (ha.qs (by omega)) ((hw.mul hx).qs (by omega)) ?_
  rw [qAdd_R]
  exact h
theorem getD_map {α : Type} (f : α → D) (xs : List α) (a : α) {j : Nat} {d : D} (h : (xs.map f)[j]? = some d) : d = f (xs.getD j a) ∧ j < xs.length := by
  have hj := lt_of_get h
  rw [List.length_map] at hj
  rw [List.getElem?_map, List.getElem?_eq_getElem hj] at h
  cases h
  rw [List.getD_eq_getElem?_getD, List.getElem?_eq_getElem hj]
  exact ⟨rfl, hj⟩
theorem zip_get {xs ys : List D} {j : Nat} {d : D} (h : (zipD xs ys)[j]? = some d) : ∃ x y, xs[j]? = some x ∧ ys[j]? = some y ∧ d = .tup [x, y] := by
  unfold zipD at h
  rw [List.getElem?_zipWith] at h
  cases hx : xs[j]? with
  | none => rw [hx] at h; cases h
  | some x =>
    cases hy : ys[j]? with
    | none => rw [hx, hy] at h; cases h
    | some y =>
      rw [hx, hy] at h
      cases h
      exact ⟨x, y, rfl, rfl, rfl⟩
theorem zip_len {xs ys : List D} : (zipD xs ys).length = min xs.length ys.length := by unfold zipD; rw [List.length_zipWith]
theorem atI_map {α : Type} (f : α → D) (xs : List α) (a : α) {j : Nat} (h : j < xs.length) : atI (xs.map f) (j : Int) = some (f (xs.getD j a)) := by
  refine atI_nat ?_
  rw [List.getElem?_map, List.getElem?_eq_getElem h, List.getD_eq_getElem?_getD, List.getElem?_eq_getElem h]
  rfl
section
variable {ws : List Rat} {ps : List (Rat × List Int)} {prs : List Rat} {many : Nat} {p : Rat × List Int}
theorem sp_paid_at (hp : Pay many p) (hr : ∀ r ∈ prs, Sz 6 r) (hl : prs.length = many) (hm : many ≤ 4) (h : R (rD (Pd prs p many)) S) : Cal w_paid_at [payD p, .tup (prs.map rD)] S R Rx := by
  refine .mk ?_
  rw [w_paid_at_eq]
  have o : Ok [] [] prs many := ⟨by simp, by simp, hr, hm, rfl, by simp, hl⟩
  have hlen : (zipD (p.2.map D.int) (prs.map rD)).length = many := by rw [zip_len, List.length_map, List.length_map, hp.l, hl, Nat.min_self]
  refine ix_at rfl (ix_at rfl ?_)
  refine for_ind (fun j ρ S' => S' = S ∧ j ≤ many ∧ ∃ a b, ρ = [some (payD p), some (.tup (prs.map rD)), some (rD (Pd prs p j)), a, b]) _ (fun _ _ _ _ => ⟨trivial, trivial⟩) ?_ ⟨rfl, Nat.zero_le _, none, none, rfl⟩ fun ρ S' h' => ?_
  · rintro j x ρ S' E' hx ⟨rfl, hj, a, b, rfl⟩ _ _ _ kn _
    obtain ⟨d1, d2, h1, h2, rfl⟩ := zip_get hx
    obtain ⟨rfl, l1⟩ := getD_map D.int p.2 0 h1
    obtain ⟨rfl, l2⟩ := getD_map rD prs 0 h2
    refine ⟨rfl, sz (show 2 ≤ 1000 by decide), ?_⟩
    refine st_rp (a := Pd prs p j) (w := ((p.2.getD j 0 : Int) : Rat)) (x := prOf prs j) (o.pd hp j) (Sz.int (sz_nat hp j) (by decide)) (o.rz j) (by omega) (by omega) (by omega) ?_
    exact kn _ _ ⟨rfl, by omega, _, _, rfl⟩
  · obtain ⟨rfl, _, a, b, rfl⟩ := h'
    rw [hlen]
    exact h
theorem sp_law_paid (hp : Pay many p) (hr : ∀ r ∈ prs, Sz 6 r) (hl : prs.length = many) (hm : many ≤ 4) (h : R (rD (Pd prs p many)) S) : Cal w_law_paid [payD p, .tup (prs.map rD)] S R Rx := by
  refine .mk ?_
  rw [w_law_paid_eq]
  have o : Ok [] [] prs many := ⟨by simp, by simp, hr, hm, rfl, by simp, hl⟩
  have hlen : (((prs.map rD).length : Nat) : Int) = (many : Int) := by rw [List.length_map, hl]
  refine ix_at rfl ⟨⟨by omega, by omega⟩, ?_⟩
  rw [hlen]
  refine for_ind (fun j ρ S' => S' = S ∧ j ≤ many ∧ ∃ a, ρ = [some (payD p), some (.tup (prs.map rD)), some (rD (Pd prs p j)), a]) _ (fun _ _ _ _ => trivial) ?_ ⟨rfl, Nat.zero_le _, none, rfl⟩ fun ρ S' h' => ?_
  · rintro j x ρ S' E' hx ⟨rfl, hj, a, rfl⟩ _ _ _ kn _
    obtain ⟨hj', rfl⟩ := getElem_range hx
    rw [Int.zero_add]
    have hj2 : j < many := by simpa using hj'
    refine ix_at rfl (ix_at (atI_map D.int p.2 0 (by rw [hp.l]; exact hj2)) ⟨sz (show 2 ≤ 1000 by decide), ix_at (atI_map rD prs 0 (by omega)) ?_⟩)
    refine st_lp (a := Pd prs p j) (w := ((p.2.getD j 0 : Int) : Rat)) (x := prOf prs j) (o.pd hp j) (Sz.int (sz_nat hp j) (by decide)) (o.rz j) (by omega) (by omega) (by omega) ?_
    exact kn _ _ ⟨rfl, by omega, _, rfl⟩
  · obtain ⟨rfl, _, a, rfl⟩ := h'
    rw [range_len]
    exact h
end
section
variable {ws : List Rat} {ps : List (Rat × List Int)} {prs : List Rat} {many : Nat}
abbrev csD (ws : List Rat) (ps : List (Rat × List Int)) (many j : Nat) : List D := (List.range many).map fun s => rD (Cj ws ps s j)
abbrev mixD (ws : List Rat) (ps : List (Rat × List Int)) (many : Nat) : D := .tup [rD (Pj ws ps ps.length), .tup (csD ws ps many ps.length)]
theorem cs_get {j i : Nat} {d : D} (h : (csD ws ps many j)[i]? = some d) : d = rD (Cj ws ps i j) ∧ i < many := by
  unfold csD at h
  rw [List.getElem?_map] at h
  by_cases hi : i < many
  · rw [List.getElem?_range hi] at h
    cases h
    exact ⟨rfl, hi⟩
  · rw [List.getElem?_eq_none (by rw [List.length_range]; omega)] at h
    cases h
theorem cs_len {j : Nat} : (csD ws ps many j).length = many := by unfold csD; rw [List.length_map, List.length_range]
theorem cs_succ {j i : Nat} : (List.range (i + 1)).map (fun s => rD (Cj ws ps s j)) = (List.range i).map (fun s => rD (Cj ws ps s j)) ++ [rD (Cj ws ps i j)] := by
  rw [List.range_succ, List.map_append]
  rfl
theorem Ok.pl (o : Ok ws ps prs many) {j : Nat} (h : j < ps.length) : (ps.getD j (0, [])).2.length = many := by
  rw [List.getD_eq_getElem?_getD, List.getElem?_eq_getElem h]
  exact (o.p _ (List.getElem_mem _)).l
theorem sp_mixed (o : Ok ws ps prs many) (h0 : 0 < ps.length) (h : ∀ S', Frm [] S S' → R (mixD ws ps many) S') : Cal w_mixed [.tup (ws.map rD), .tup (ps.map payD)] S R Rx := by
  refine .mk ?_
  rw [w_mixed_eq]
  have hm := o.m
  have l5 := o.l5
  have z2 : 2 ≤ sizeLine := by decide
  refine ix_at (d := payD (ps.getD 0 (0, []))) (atI_map payD ps (0, []) h0) (ix_at rfl ?_)
  have hl0 : ((ps.getD 0 (0, [])).2.map D.int).length = many := by rw [List.length_map, o.pl h0]
  refine lc_ind (fun j acc S' => acc = List.replicate j (rD 0) ∧ j ≤ many ∧ Frm [] S S' ∧ S'[S.length]? = some (.lst acc)) _ (fun j acc S' h => ⟨trivial, h.2.2.2, by rw [h.1, List.length_replicate]; omega⟩) ?_ ⟨rfl, Nat.zero_le _, .app _, get_last⟩ fun acc S1 h1 => ?_
  · rintro j x acc S' R Z hx ⟨rfl, h2, h3, h4⟩ kk _
    have hj := lt_of_get hx
    have lq := lt_of_get h4
    refine ifT rfl (kk (rD 0) S' h4 ⟨?_, by omega, h3.setNew (Nat.le_refl _), by rw [List.getElem?_set_self lq]⟩)
    rw [← List.replicate_succ']
  obtain ⟨rfl, _, f1, g1⟩ := h1
  rw [hl0] at g1
  have hc0 : List.replicate many (rD 0) = csD ws ps many 0 := by
    unfold csD
    have : (fun s => rD (Cj ws ps s 0)) = fun _ => rD 0 := rfl
    rw [this, List.map_const', List.length_range]
  rw [hc0] at g1
  have hzl : (zipD (ws.map rD) (ps.map payD)).length = ps.length := by rw [zip_len, List.length_map, List.length_map, o.l, Nat.min_self]
  refine for_ind (fun j ρ S' => Frm [] S S' ∧ j ≤ ps.length ∧ ∃ q r4 r5 r6 r7 r8 r9, ρ = [some (.tup (ws.map rD)), some (.tup (ps.map payD)), some (rD (Pj ws ps j)), some (.ref q), r4, r5, r6, r7, r8, r9] ∧ S'[q]? = some (.lst (csD ws ps many j))) _ (fun _ _ _ _ => ⟨trivial, trivial⟩) ?_
    ⟨f1, Nat.zero_le _, _, _, _, _, _, _, _, rfl, g1⟩ fun ρ S' h' => ?_
  · rintro j x ρ S' E' hx ⟨f, hj, q, r4, r5, r6, r7, r8, r9, rfl, hq⟩ _ _ _ kn _
    obtain ⟨d1, d2, h1, h2, rfl⟩ := zip_get hx
    obtain ⟨rfl, l1⟩ := getD_map rD ws 0 h1
    obtain ⟨rfl, l2⟩ := getD_map payD ps (0, []) h2
    refine ⟨rfl, rfl, ?_⟩
    refine st_rp (a := Pj ws ps j) (w := wOf_ ws j) (x := cOf ps j) (o.pj j) (o.wz j) (o.cz j) (by omega) (by omega) (by omega) ?_
    refine iter_at hq ?_
    have hzc : (zipD (csD ws ps many j) ((ps.getD j (0, [])).2.map D.int)).length = many := by rw [zip_len, cs_len, List.length_map, o.pl l2, Nat.min_self]
    have lq := lt_of_get hq
    refine lc_ind (fun i acc T => acc = (List.range i).map (fun s => rD (Cj ws ps s (j + 1))) ∧ i ≤ many ∧ Frm [] S' T ∧ T[S'.length]? = some (.lst acc)) _ (fun i acc T h => ⟨⟨h.2.2.1.get0 hq, trivial⟩, h.2.2.2, by rw [h.1, List.length_map, List.length_range]; omega⟩) ?_ ⟨rfl, Nat.zero_le _, .app _, get_last⟩ fun acc T hT => ?_
    · rintro i x acc T R Z hx ⟨rfl, h2, h3, h4⟩ kk _
      have hi := lt_of_get hx
      obtain ⟨e1, e2, h1, h2', rfl⟩ := zip_get hx
      obtain ⟨rfl, _⟩ := cs_get h1
      obtain ⟨rfl, _⟩ := getD_map D.int _ 0 h2'
      have lT := lt_of_get h4
      refine ⟨rfl, ifT rfl ⟨z2, ?_⟩⟩
      refine st_rp (a := Cj ws ps i j) (w := wOf_ ws j) (x := nOf ps j i) (o.cj i j) (o.wz j) (o.nz j i) (by omega) (by omega) (by omega) ?_
      exact kk _ T h4 ⟨cs_succ.symm, by omega, h3.setNew (Nat.le_refl _), by rw [List.getElem?_set_self lT]⟩
    · obtain ⟨rfl, _, h3, h4⟩ := hT
      rw [hzc] at h4
      exact kn _ _ ⟨f.trans h3, l2, _, _, _, _, _, _, _, rfl, h4⟩
  · obtain ⟨f, _, q, r4, r5, r6, r7, r8, r9, rfl, hq⟩ := h'
    rw [hzl] at hq ⊢
    exact lst_at hq ⟨z2, h S' f⟩
end
theorem pl_q {q : Int × Int} : Pl (qD q) := pl_tup.mpr (pls_cons.mpr ⟨pl_int, pls_cons.mpr ⟨pl_int, pls_nil⟩⟩)
theorem wt_q3 {q : Int × Int} : wt (qD q) = 3 := by rw [wt, wts, wts, wts, wt_int, wt_int]
theorem wt_q {q : Int × Int} : wt (qD q) ≤ 100000 := by rw [wt_q3]; decide
theorem Deal.hW {n m : Nat} {S : Sto} (d : Deal n m S) : ∀ i ∈ [n, m], i < S.length := by
  intro i hi
  obtain ⟨h1, h2⟩ := d.lt
  simp only [List.mem_cons, List.not_mem_nil, or_false] at hi
  rcases hi with rfl | rfl <;> assumption
theorem Deal.but {n m p : Nat} {S S' : Sto} (d : Deal n m S) (hp : p ∉ [n, m]) (h : ∀ i, i ≠ p → S'[i]? = S[i]?) : Deal n m S' := by
  obtain ⟨ne, cs, mix, g1, g2, g3⟩ := d
  simp only [List.mem_cons, List.not_mem_nil, or_false, not_or] at hp
  exact ⟨ne, cs, mix, by rw [h n (fun e => hp.1 e.symm)]; exact g1, by rw [h m (fun e => hp.2 e.symm)]; exact g2, g3⟩
theorem mix_good {ws : List Rat} {ps : List (Rat × List Int)} {many : Nat} (hm : many ≤ 4) : Good (pr (mixD ws ps many)) := by
  refine ⟨_, rfl, pl_tup.mpr (pls_cons.mpr ⟨pl_q, pls_cons.mpr ⟨pl_tup.mpr (pls_all fun x hx => ?_), pls_nil⟩⟩), ?_⟩
  · obtain ⟨s, _, rfl⟩ := List.mem_map.mp hx
    exact pl_q
  · have h := wts_le (b := 3) (xs := csD ws ps many ps.length) fun x hx => by
      obtain ⟨s, _, rfl⟩ := List.mem_map.mp hx
      rw [wt_q3]
      exact Nat.le_refl _
    rw [cs_len] at h
    rw [wt_tup, wts_cons, wts_cons, wts_nil, wt_q3, wt_tup]
    omega
section
variable {ws : List Rat} {ps : List (Rat × List Int)} {prs : List Rat} {many : Nat} {E : DEnds}
/-- the slots of a turn -/
abbrev rho (n : Nat) (p : Nat) (ws : List Rat) (ps : List (Rat × List Int)) (prs : List Rat) (many : Nat) (sc t a5 a6 a7 a12 a13 a14 a15 a16 : Option D) : Ev :=
  [sc, some (.ref n), some (.ref p), t, some (.tup (ps.map payD)), a5, a6, a7, some (.int (many : Int)), some (.int (ps.length : Int)), some (.tup (ws.map rD)), some (.tup (prs.map rD)), a12, a13, a14, a15, a16]
theorem lp1 (o : Ok ws ps prs many) {n p q : Nat} {sc t a5 a6 a7 a14 a15 a16 : Option D} (hq : S[q]? = some (.lst (csD ws ps many 0)))
    (k : ∀ q a5 a7 S', Frm [] S S' → S'[q]? = some (.lst (csD ws ps many ps.length)) → S.length ≤ q ∨ ps.length = 0 → E.nx (rho n p ws ps prs many sc t a5 a6 a7 (some (rD (Pj ws ps ps.length))) (some (.ref q)) a14 a15 a16) S') :
    forW noG (gNm 5) f1_law E (rangeD 0 ((ps.length : Int)).toNat) (rho n p ws ps prs many sc t a5 a6 a7 (some (rD 0)) (some (.ref q)) a14 a15 a16) S := by
  have hm := o.m
  have l5 := o.l5
  refine for_ind (fun j ρ S' => Frm [] S S' ∧ j ≤ ps.length ∧ ∃ q a5 a7, ρ = rho n p ws ps prs many sc t a5 a6 a7 (some (rD (Pj ws ps j))) (some (.ref q)) a14 a15 a16 ∧ S'[q]? = some (.lst (csD ws ps many j)) ∧ (S.length ≤ q ∨ j = 0)) _ (fun _ _ _ _ => trivial) ?_
    ⟨.refl, Nat.zero_le _, q, _, _, rfl, hq, .inr rfl⟩ fun ρ S' h' => ?_
  · rintro j x ρ S' E' hx ⟨f, hj, q, a5, a7, rfl, hq, hor⟩ _ _ _ kn _
    obtain ⟨hj', rfl⟩ := getElem_range hx
    rw [Int.zero_add]
    have l2 : j < ps.length := by simpa using hj'
    have l1 : j < ws.length := by rw [o.l]; exact l2
    refine ix_at (atI_map rD ws 0 l1) (ix_at (atI_map payD ps (0, []) l2) (ix_at rfl ?_))
    refine st_lp (a := Pj ws ps j) (w := wOf_ ws j) (x := cOf ps j) (o.pj j) (o.wz j) (o.cz j) (by omega) (by omega) (by omega) ?_
    refine ⟨⟨by omega, by omega⟩, ?_⟩
    refine lc_ind (fun i acc T => acc = (List.range i).map (fun s => rD (Cj ws ps s (j + 1))) ∧ i ≤ many ∧ Frm [] S' T ∧ T[S'.length]? = some (.lst acc)) _ (fun i acc T h => ⟨trivial, h.2.2.2, by rw [h.1, List.length_map, List.length_range]; omega⟩) ?_ ⟨rfl, Nat.zero_le _, .app _, get_last⟩ fun acc T hT => ?_
    · rintro i x acc T R Z hx ⟨rfl, h2, h3, h4⟩ kk _
      obtain ⟨hi', rfl⟩ := getElem_range hx
      rw [Int.zero_add]
      have hi : i < many := by simpa using hi'
      have lT := lt_of_get h4
      have hcs : atI (csD ws ps many j) (i : Int) = some (rD (Cj ws ps i j)) := by
        refine atI_nat ?_
        unfold csD
        rw [List.getElem?_map, List.getElem?_range hi]
        rfl
      refine ifT rfl (lst_at (h3.get0 hq) (ix_at hcs (ix_at (atI_map rD ws 0 l1) (ix_at (atI_map payD ps (0, []) l2) (ix_at rfl (ix_at (atI_map D.int _ 0 (by rw [o.pl l2]; exact hi)) ⟨sz (show 2 ≤ 1000 by decide), ?_⟩))))))
      refine st_lp (a := Cj ws ps i j) (w := wOf_ ws j) (x := nOf ps j i) (o.cj i j) (o.wz j) (o.nz j i) (by omega) (by omega) (by omega) ?_
      exact kk _ T h4 ⟨cs_succ.symm, hi, h3.setNew (Nat.le_refl _), by rw [List.getElem?_set_self lT]⟩
    · obtain ⟨rfl, _, h3, h4⟩ := hT
      rw [range_len] at h4
      exact kn _ _ ⟨f.trans h3, l2, _, _, _, rfl, h4, .inl f.len⟩
  · obtain ⟨f, _, q, a5, a7, rfl, hq, hor⟩ := h'
    rw [range_len, Int.toNat_natCast] at hq hor ⊢
    exact k _ _ _ _ f hq hor
theorem lp2 (o : Ok ws ps prs many) {n p q : Nat} {sc t a5 a6 a7 a12 a15 a16 : Option D} (hq : S[q]? = some (.lst (csD ws ps many ps.length)))
    (k : ∀ a7, E.nx (rho n p ws ps prs many sc t a5 a6 a7 a12 (some (.ref q)) (some (rD (Wh ws ps prs ps.length many))) a15 a16) S) :
    forW noG (gNm 7) f2_law E (rangeD 0 ((many : Int)).toNat) (rho n p ws ps prs many sc t a5 a6 a7 a12 (some (.ref q)) (some (rD (Pj ws ps ps.length))) a15 a16) S := by
  have hm := o.m
  have l5 := o.l5
  refine for_ind (fun j ρ S' => S' = S ∧ j ≤ many ∧ ∃ a7, ρ = rho n p ws ps prs many sc t a5 a6 a7 a12 (some (.ref q)) (some (rD (Wh ws ps prs ps.length j))) a15 a16) _ (fun _ _ _ _ => trivial) ?_
    ⟨rfl, Nat.zero_le _, _, rfl⟩ fun ρ S' h' => ?_
  · rintro j x ρ S' E' hx ⟨rfl, hj, a7, rfl⟩ _ _ _ kn _
    obtain ⟨hj', rfl⟩ := getElem_range hx
    rw [Int.zero_add]
    have l2 : j < many := by simpa using hj'
    have hcs : atI (csD ws ps many ps.length) (j : Int) = some (rD (Cj ws ps j ps.length)) := by
      refine atI_nat ?_
      unfold csD
      rw [List.getElem?_map, List.getElem?_range l2]
      rfl
    refine lst_at hq (ix_at hcs (ix_at (atI_map rD prs 0 (by rw [o.lr]; exact l2)) ?_))
    refine st_lp (a := Wh ws ps prs ps.length j) (w := Cj ws ps j ps.length) (x := prOf prs j) (o.wh l5 j) (o.cj j ps.length) (o.rz j) (by omega) (by omega) (by omega) ?_
    exact kn _ _ ⟨rfl, l2, _, rfl⟩
  · obtain ⟨rfl, _, a7, rfl⟩ := h'
    rw [range_len, Int.toNat_natCast]
    exact k _
end
theorem lc_all {p n : Nat} {ps : List D} {a : Option D} {Rq : Sto → Prop} (hne : p ≠ n) : ∀ (xs : List D) (S : Sto), (∀ x ∈ xs, Good x) → S[p]? = some (.lst ps) → S[n]? = some (.lst []) →
    (∀ S', S'[n]? = some (.lst []) → Rq S') →
    lcW n (fun S => S[p]? = some (.lst ps)) (gTp 2 (gsCons (gNm 1) (gsCons (gNm 2) gsNil))) q1_law_all v1_law_all [a, none, none] Rq xs S
  | [], S, hg, hp, hn, k => ⟨hp, k S hn⟩
  | x :: xs, S, hg, hp, hn, k => by
    obtain ⟨d, rfl, pd, wd⟩ := hg x (by simp)
    refine ⟨hp, ⟨rfl, sp_same pd wd fun S' f => ifF rfl ?_⟩⟩
    exact lc_all hne xs S' (fun y hy => hg y (by simp [hy])) (f.get0 hp) (f.get0 hn) k
theorem sp_all {p : Nat} {ps : List D} (hp : S[p]? = some (.lst ps)) (hg : ∀ x ∈ ps, Good x) (h : ∀ S', R (.bl true) S') : Cal w_law_all [.ref p] S R Rx := by
  refine .mk ?_
  rw [w_law_all_eq]
  have lp := lt_of_get hp
  have e : (S ++ [Ob.lst []])[p]? = some (.lst ps) := (Frm.app (W := []) _).get0 hp
  refine iter_at hp (lc_all (by omega) ps _ hg e get_last fun S' hn => lst_at hn (h S'))
section
variable {ws : List Rat} {ps : List (Rat × List Int)} {prs : List Rat} {many : Nat} {E : DEnds}
theorem Ok.pay (o : Ok ws ps prs many) {j : Nat} (h : j < ps.length) : Pay many (ps.getD j (0, [])) := by
  rw [List.getD_eq_getElem?_getD, List.getElem?_eq_getElem h]
  exact o.p _ (List.getElem_mem _)
theorem lp3 (o : Ok ws ps prs many) {n m p c : Nat} {sc t a5 a6 a7 a12 a13 a14 a16 : Option D} (d : Deal n m S) (hp : Prs [n, m] p c S) (hc : c + 10 ≤ 100000)
    (k : ∀ p a5 a16 S', Deal n m S' → Prs [n, m] p (c + 2 * ps.length) S' → E.nx (rho n p ws ps prs many sc t a5 a6 a7 a12 a13 a14 (some (rD (Wo ws ps prs many ps.length))) a16) S') :
    forW noG (gNm 5) f3_law E (rangeD 0 ((ps.length : Int)).toNat) (rho n p ws ps prs many sc t a5 a6 a7 a12 a13 a14 (some (rD 0)) a16) S := by
  have hm := o.m
  have l5 := o.l5
  refine for_ind (fun j ρ S' => j ≤ ps.length ∧ Deal n m S' ∧ ∃ p a5 a16, Prs [n, m] p (c + 2 * j) S' ∧ ρ = rho n p ws ps prs many sc t a5 a6 a7 a12 a13 a14 (some (rD (Wo ws ps prs many j))) a16) _ (fun _ _ _ _ => trivial) ?_
    ⟨Nat.zero_le _, d, p, _, _, hp, rfl⟩ fun ρ S' h' => ?_
  · rintro j x ρ S' E' hx ⟨hj, d, p, a5, a16, hp, rfl⟩ _ _ _ kn _
    obtain ⟨hj', rfl⟩ := getElem_range hx
    rw [Int.zero_add]
    have l2 : j < ps.length := by simpa using hj'
    have l1 : j < ws.length := by rw [o.l]; exact l2
    have py := o.pay l2
    refine ix_at (atI_map payD ps (0, []) l2) (sp_law_paid py o.r o.lr hm ?_)
    refine ix_at (atI_map rD ws 0 l1) ?_
    refine st_lp (a := Wo ws ps prs many j) (w := wOf_ ws j) (x := Pd prs (ps.getD j (0, [])) many) (o.wo j (by omega)) (o.wz j) (o.pd py many) (by omega) (by omega) (by omega) ?_
    dsimp only [rho, List.set]
    refine add_prs (n := 2) hp d.hW (by rfl) ?_ (by omega) fun p' S2 f2 hp2 _ => ?_
    · exact .cons (EvV.pair (d := rD (Pd prs (ps.getD j (0, [])) many)) (fun S Rx R k => ix_at (atI_map payD ps (0, []) l2) (sp_paid_at py o.r o.lr hm (k S .refl))) (fun S Rx R k => k S .refl) pl_q wt_q)
        (.cons (EvV.pair (d := rD (Pd prs (ps.getD j (0, [])) many)) (fun S Rx R k => ix_at (atI_map payD ps (0, []) l2) (sp_paid_at py o.r o.lr hm (k S .refl))) (fun S Rx R k => k S .refl) pl_q wt_q) .nil)
    · exact kn _ _ ⟨l2, d.frm0 f2, p', _, _, hp2.mono (by omega), rfl⟩
  · obtain ⟨_, d, p, a5, a16, hp, rfl⟩ := h'
    rw [range_len, Int.toNat_natCast] at hp ⊢
    exact k _ _ _ _ d hp
end
theorem f4_turn {E : DEnds} {n m p c : Nat} {t : Int} {sc b4 b5 b6 b7 b8 b9 b10 b11 b12 b13 b14 b15 b16 : Option D} (d : Deal n m S) (hp : Prs [n, m] p c S) (hc : c + 20 ≤ 100000)
    (k : ∀ p b4 b5 b6 b7 b8 b9 b10 b11 b12 b13 b14 b15 b16 S', Deal n m S' → Prs [n, m] p (c + 12) S' → E.nx [sc, some (.ref n), some (.ref p), some (.int t), b4, b5, b6, b7, b8, b9, b10, b11, b12, b13, b14, b15, b16] S') :
    f4_law E [sc, some (.ref n), some (.ref p), some (.int t), b4, b5, b6, b7, b8, b9, b10, b11, b12, b13, b14, b15, b16] S := by
  have z2 : 2 ≤ sizeLine := by decide
  have z1 : 1 ≤ sizeLine := by decide
  refine sp_any d (by decide) (lt8 (by decide)) fun a S1 a0 a1 f1 d1 => ?_
  refine sp_any d1 (by decide) (lt8 (by decide)) fun b S2 b0 b1 f2 d2 => ?_
  obtain ⟨many, rfl⟩ : ∃ i : Nat, a = (i : Int) := ⟨a.toNat, by omega⟩
  obtain ⟨size, hz⟩ : ∃ i : Nat, 1 + b = (i : Int) := ⟨(1 + b).toNat, by omega⟩
  have hs0 : 0 < size := by omega
  have hs5 : size ≤ 5 := by omega
  have hm : many ≤ 4 := by omega
  refine add_int hz ?_
  refine sp_drawn_pays d2 hm hs5 fun ps q S3 lps hps f3 d3 hq => ?_
  refine lst_at hq ?_
  refine sp_drawn_weights d3 hs0 hs5 fun ws S4 lws hws f4 d4 => ?_
  refine ⟨⟨by omega, by omega⟩, ?_⟩
  refine lc_draw (fun d => ∃ x : Rat, d = rD x ∧ Sz 6 x) d4 (by rw [range_len]; omega) (fun x _ S R d k => ?_) fun ds S5 hl hds f5 d5 hq5 => ?_
  · exact sp_law_price d fun x S' hx f d' => k _ S' ⟨x, rfl, hx⟩ f d'
  obtain ⟨prs, rfl, hprs⟩ := choose_map hds
  rw [range_len] at hl
  have hl' : prs.length = many := by simpa using hl
  refine lst_at hq5 ⟨z2, rfl, ?_⟩
  have o : Ok ws ps prs many := ⟨hws, hps, hprs, hm, by omega, by omega, hl'⟩
  subst lps
  have hp5 := hp.frm ((f1.trans f2).trans (f3.trans (f4.trans f5)))
  have g6 : (S5 ++ [Ob.lst [D.tup [D.int 0, D.int 1]]])[S5.length]? = some (.lst [D.tup [D.int 0, D.int 1]]) := get_last
  refine ⟨z2, z2, z1, mlst_at g6 ⟨⟨by omega, by omega, ?_⟩, z2, rfl, ?_⟩⟩
  · have : 1000 < sizeLine := by decide
    simp
    omega
  have ecs : (List.replicate ((many : Int)).toNat [D.tup [D.int 0, D.int 1]]).flatten = csD ws ps many 0 := by
    have h1 : (fun s => rD (Cj ws ps s 0)) = fun _ => rD 0 := rfl
    unfold csD
    rw [h1, List.map_const', List.length_range, Int.toNat_natCast]
    have e0 : D.tup [D.int 0, D.int 1] = rD 0 := rfl
    rw [e0]
    simp
  have g7 : (S5 ++ [Ob.lst [D.tup [D.int 0, D.int 1]]] ++ [Ob.lst (List.replicate ((many : Int)).toNat [D.tup [D.int 0, D.int 1]]).flatten])[(S5 ++ [Ob.lst [D.tup [D.int 0, D.int 1]]]).length]? = some (.lst (csD ws ps many 0)) := by rw [get_last, ecs]
  have f7 : Frm [] S5 (S5 ++ [Ob.lst [D.tup [D.int 0, D.int 1]]] ++ [Ob.lst (List.replicate ((many : Int)).toNat [D.tup [D.int 0, D.int 1]]).flatten]) := (Frm.app _).trans (.app _)
  have lS7 : S5.length < (S5 ++ [Ob.lst [D.tup [D.int 0, D.int 1]]]).length := by simp
  generalize (S5 ++ [Ob.lst [D.tup [D.int 0, D.int 1]]]).length = q7 at g7 lS7 ⊢
  generalize S5 ++ [Ob.lst [D.tup [D.int 0, D.int 1]]] ++ [Ob.lst (List.replicate ((many : Int)).toNat [D.tup [D.int 0, D.int 1]]).flatten] = S7 at g7 f7 ⊢
  refine ⟨⟨by omega, by omega⟩, ?_⟩
  have hpl : p < S5.length := by
    obtain ⟨_, qs, h1, _⟩ := hp5
    exact lt_of_get h1
  refine lp1 o g7 fun q8 a5 a7 S8 f8 g8 hor => ?_
  have f58 := f7.trans f8
  have hq8 : q8 ≠ p := by
    rcases hor with h | h
    · have := f7.len
      omega
    · omega
  have d8 := d5.frm0 f58
  have hp8 := hp5.frm f58.nil
  have ev : ∀ R, (∀ S', Frm [] S8 S' → R (mixD ws ps many) S') → ∀ (b : Bool) Rx, ift b (Cal w_mixed [.tup (ws.map rD), .tup (ps.map payD)] S8 R Rx) (Cal w_mixed [.tup (ws.map rD), .tup (ps.map payD)] S8 R Rx) := fun R h b Rx =>
    ifB (fun _ => sp_mixed o hs0 h) fun _ => sp_mixed o hs0 h
  refine ev _ (fun S9 f9 => ?_) _ _
  have hp9 := hp8.frm f9.nil
  have g9 := f9.get0 g8
  refine ⟨hp9.m, lst_at g9 ⟨z2, z2, ?_⟩⟩
  refine app_prs hp9 (mix_good hm) (by omega) fun S10 e10 l10 hp10 => ?_
  have d10 := (d8.frm0 f9).but hp.nW e10
  have g10 : S10[q8]? = some (.lst (csD ws ps many ps.length)) := by rw [e10 q8 hq8]; exact g9
  refine ⟨z2, ?_⟩
  refine ⟨⟨by omega, by omega⟩, ?_⟩
  refine lp2 (n := n) (p := p) o g10 fun a7 => ?_
  refine ⟨⟨by omega, by omega⟩, ?_⟩
  refine lp3 (n := n) (p := p) o d10 hp10 (by omega) fun p11 a5 a16 S11 d11 hp11 => ?_
  have ew : Wo ws ps prs many ps.length = Wh ws ps prs ps.length many := wo_wh ws ps prs many ps.length
  refine ⟨hp11.m, z2, ?_⟩
  rw [ew]
  refine app_prs hp11 ⟨_, rfl, pl_q, wt_q⟩ (by omega) fun S12 e12 l12 hp12 => ?_
  exact k _ _ _ _ _ _ _ _ _ _ _ _ _ _ _ (d11.but hp11.nW e12) (hp12.mono (by omega))
def r12 : Rat := ⟨1, 2, by decide, by decide⟩
def r13 : Rat := ⟨1, 3, by decide, by decide⟩
def r11 : Rat := ⟨1, 1, by decide, by decide⟩
def r00 : Rat := ⟨0, 1, by decide, by decide⟩
theorem z12 : Sz 6 r12 := ⟨by decide, by decide⟩
theorem z13 : Sz 6 r13 := ⟨by decide, by decide⟩
theorem z11 : Sz 6 r11 := ⟨by decide, by decide⟩
theorem z00 : Sz 6 r00 := ⟨by decide, by decide⟩
abbrev ws0 : List Rat := [r12, r12]
abbrev ps0 : List (Rat × List Int) := [(r00, [2, 0]), (r11, [0, 2])]
theorem ok0 : Ok ws0 ps0 [r11, r11] 2 := by
  refine ⟨fun w hw => ?_, fun p hp => ?_, fun r hr => ?_, by decide, rfl, by decide, rfl⟩
  · simp only [List.mem_cons, List.not_mem_nil, or_false] at hw
    rcases hw with rfl | rfl <;> exact z12
  · simp only [List.mem_cons, List.not_mem_nil, or_false] at hp
    rcases hp with rfl | rfl
    · exact ⟨z00, rfl, by decide⟩
    · exact ⟨z11, rfl, by decide⟩
  · simp only [List.mem_cons, List.not_mem_nil, or_false] at hr
    rcases hr with rfl | rfl <;> exact z11
theorem mix0 : mixD ws0 ps0 2 = .tup [qD (1, 2), .tup [qD (1, 1), qD (1, 1)]] := by
  have e1 : qR (Pj ws0 ps0 2) = (1, 2) := by decide +kernel
  have e2 : qR (Cj ws0 ps0 0 2) = (1, 1) := by decide +kernel
  have e3 : qR (Cj ws0 ps0 1 2) = (1, 1) := by decide +kernel
  show D.tup [qD (qR (Pj ws0 ps0 2)), .tup [qD (qR (Cj ws0 ps0 0 2)), qD (qR (Cj ws0 ps0 1 2))]] = _
  rw [e1, e2, e3]
theorem law_true (ns : List Int) (hl : ns.length ≤ 63) : w_law [.ref 0] [.fix (ns.map D.int)] (fun d _ => d = .bl true) noX := by
  rw [w_law_eq]
  have z : ∀ n : Nat, n ≤ 1000 → n ≤ sizeLine := fun n h => sz h
  refine sp_deal (q := 0) (by decide) (by decide) rfl fun n m S1 ln lm f1 d1 => ⟨z 0 (by decide), ⟨by decide, by decide⟩, ?_⟩
  have hl1 := d1.lt
  refine for_ind (fun j ρ S' => Deal n m S' ∧ ∃ p b3 b4 b5 b6 b7 b8 b9 b10 b11 b12 b13 b14 b15 b16, Prs [n, m] p (12 * j) S' ∧ ρ = [some (.ref 0), some (.ref n), some (.ref p), b3, b4, b5, b6, b7, b8, b9, b10, b11, b12, b13, b14, b15, b16]) _ (fun _ _ _ _ => trivial) ?_
    ⟨d1.frm0 (.app _), S1.length, _, _, _, _, _, _, _, _, _, _, _, _, _, _, ⟨by simp; omega, [], get_last, by simp, by simp⟩, rfl⟩ fun ρ S' h' => ?_
  · rintro j x ρ S' E' hx ⟨d, p, b3, b4, b5, b6, b7, b8, b9, b10, b11, b12, b13, b14, b15, b16, hp, rfl⟩ _ _ _ kn _
    obtain ⟨hj, rfl⟩ := getElem_range hx
    have hj9 : j < 9 := hj
    exact f4_turn d hp (by omega) fun p b4 b5 b6 b7 b8 b9 b10 b11 b12 b13 b14 b15 b16 S' d' hp' => kn _ _ ⟨d', p, _, _, _, _, _, _, _, _, _, _, _, _, _, _, hp'.mono (by omega), rfl⟩
  obtain ⟨d, p, b3, b4, b5, b6, b7, b8, b9, b10, b11, b12, b13, b14, b15, b16, hp, rfl⟩ := h'
  rw [range_len] at hp
  have hp0 : Prs [] p 108 S' := ⟨by simp, hp.ex⟩
  have z2 : 2 ≤ sizeLine := by decide
  have z1 : 1 ≤ sizeLine := by decide
  have z0 : 0 ≤ sizeLine := by decide
  try dsimp only [sSeq, sSet, List.set]
  refine add_prs (n := 1) hp0 (by simp) (by rfl) ?_ (by omega) fun p4 S4 f4 hp4 _ => ?_
  · refine .cons (EvV.pair (d := mixD ws0 ps0 2) (fun S Rx R k => ⟨z2, z2, z2, z2, z2, z2, z2, z2, z2, z2, sp_mixed ok0 (by decide) fun S' f => k S' f⟩) (fun S Rx R k => ⟨z2, z2, z2, z2, z2, ?_⟩) ?_ ?_) .nil
    · rw [mix0] at k
      exact k S .refl
    · obtain ⟨dd, h1, h2, _⟩ := mix_good (ws := ws0) (ps := ps0) (many := 2) (by decide)
      cases h1
      exact h2
    · obtain ⟨dd, h1, _, h2⟩ := mix_good (ws := ws0) (ps := ps0) (many := 2) (by decide)
      cases h1
      exact h2
  dsimp only [sRet, eCall]
  refine aCons_step ?_
  refine add_prs (n := 2) (ρ := [some (.ref 0), some (.ref n), some (.ref p4), b3, b4, b5, b6, b7, b8, b9, b10, b11, b12, b13, b14, b15, b16]) hp4 (by simp) rfl ?_ (by omega) fun p5 S5 f5 hp5 _ => ?_
  · have e1 : rD (Pd [r13] (r12, [3]) 1) = qD (3, 2) := congrArg qD (show qR _ = _ by decide +kernel)
    have e2 : rD (Pd [] (r12, []) 0) = qD (1, 2) := congrArg qD (show qR _ = _ by decide +kernel)
    exact .cons (EvV.pair (d := qD (3, 2)) (fun S Rx R k => ⟨z2, z1, z2, z2, z1, sp_paid_at (p := (r12, [3])) (prs := [r13]) (many := 1) ⟨z12, rfl, by decide⟩ (fun r hr => by rw [List.mem_singleton.mp hr]; exact z13) rfl (by decide) (by
          rw [e1]; exact k S .refl)⟩) (fun S Rx R k => ⟨z2, k S .refl⟩) pl_q wt_q)
        (.cons (EvV.pair (d := qD (1, 2)) (fun S Rx R k => ⟨z2, z0, z2, z0, sp_paid_at (p := (r12, [])) (prs := []) (many := 0) ⟨z12, rfl, by simp⟩ (by simp) rfl (by decide) (by
          rw [e2]; exact k S .refl)⟩) (fun S Rx R k => ⟨z2, k S .refl⟩) pl_q wt_q) .nil)
  obtain ⟨_, ps5, h5, hg5, _⟩ := hp5
  exact sp_all h5 hg5 fun S' => rfl
end K12
open PySem PySem.W PySem.Calls PyProof.Rows
theorem PySem.Challenge.cw_cheapathand_k12_what_is_mixed_and_paid_holds : PySem.Challenge.rw_cheapathand_k12_what_is_mixed_and_paid.Holds := by
  w_on; o_law
  refine HandSHeadRun.head_any (r := OpenLaw.row PySem.Challenge.rw_cheapathand_k12_what_is_mixed_and_paid) (q := view (OpenLaw.row PySem.Challenge.rw_cheapathand_k12_what_is_mixed_and_paid).prog [26]) (H := DL.hookX 5 K12.fas K12.fns K12.css) (ob := K12.ob) (M := 20000) (loose := K12.loose) (d := HandSHeadRun.topDef (OpenLaw.row PySem.Challenge.rw_cheapathand_k12_what_is_mixed_and_paid).prog 26) (kwd := []) K12.ob_eq
    (by kernel_rfl) (fun s => by kernel_rfl) K12.run (by kernel_rfl) (by kernel_rfl) (by kernel_rfl) (by rfl) (by first | assumption | decide +kernel) (by decide +kernel) ⟨rfl, rfl, rfl, rfl, rfl, by decide +kernel⟩ ?hw ?hc
  case hw => w_witness2
  case hc =>
    refine DL.walk_D (l := PySem.Challenge.rw_cheapathand_k12_what_is_mixed_and_paid) (n := 63) (k := 6) (x := "script") rfl (by decide) (by kernel_rfl) ⟨rfl, by decide, by decide⟩ fun w mg fa h Y G hmg0 => ?_
    obtain ⟨K, KX, c⟩ := Y
    have hmg : mg ("law" : PySem.Str) = some (.ref fa) := by
      have e : (HandSHeadRun.topDef (OpenLaw.row PySem.Challenge.rw_cheapathand_k12_what_is_mixed_and_paid).prog 26).name = ("law" : PySem.Str) := by kernel_rfl
      rw [← e]
      exact hmg0
    obtain ⟨fd, hb, hF⟩ := K12.facts (P := (PySem.Challenge.rw_cheapathand_k12_what_is_mixed_and_paid).prog) (w := w) KX G hmg c
    exact ⟨K, fd, _, KX, hb, fun H a ns hl hO hS => DL.law_start hO hS (K12.law_true ns hl), hF⟩
