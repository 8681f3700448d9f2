import PyProof.Rows.All
import Wide.All
import OpenK.AllK
import Wide.FinOn
import HandS.ForMost
import HandS.ForExc
import HandS.ExcCtx
import HandS.CallSlots
import HandS.IsInst
import HandS.Style
import HandS.Flow
import HandS.Conv
import HandS.Deep
import HandS.Wide
import KE.DataEq
import HandS.TupAny
import HandS.TupMul
import HandS.TupLe
import HandS.TupLen
import HandS.RevTup
import HandS.SortInts
import HandS.Gcd
import HandS.More
import HandS.Small
import HandS.HotCalls
import HandS.ExcIs
import HandS.EndBits
import PySem.Challenge.RW_printsheld_k77_whole_ribbons_to_and_fro
section
set_option Elab.async false
set_option linter.all false
set_option maxRecDepth 100000
set_option maxHeartbeats 4000000
/-! Pd: values as pure data over the hand layer; a shallow evaluator and what it is worth. -/
namespace Pd
open PySem L2

abbrev D := PyData
abbrev Frag := PySem.W.Frag

/-- a tuple, a list: never locked -/
def Still : HO → Prop
  | .tup _ => True
  | .lst _ => True
  | _ => False
/-- all that F lets read, H lets read; a tuple stays a tuple, a list a list -/
structure Ex (F H : Hp) : Prop where
  rd : ∀ a u, Rd F a u → Rd H a u
  tp : ∀ a u, Still u → F a = some u → H a = some u
theorem Ex.refl (F : Hp) : Ex F F := ⟨fun _ _ h => h, fun _ _ _ h => h⟩
theorem Ex.trans {F G H : Hp} (a : Ex F G) (b : Ex G H) : Ex F H := ⟨fun p u h => b.rd p u (a.rd p u h), fun p u k h => b.tp p u k (a.tp p u k h)⟩
theorem Rd.someOf {F : Hp} {a : Addr} {u : HO} (h : Rd F a u) : F a ≠ none := by
  rcases h with h | ⟨o, h⟩ <;> rw [h] <;> exact Option.some_ne_none _
theorem Ex.free {F H : Hp} (e : Ex F H) {p : Addr} (h : H p = none) : F p = none := by
  cases q : F p with
  | none => rfl
  | some o => exact absurd h (Rd.someOf (e.rd p o (.inl q)))
theorem Rd.upd {F : Hp} {a p : Addr} {o u : HO} (hne : a ≠ p) : Rd (upd F p o) a u ↔ Rd F a u := by
  unfold Rd
  rw [upd_ne hne]
theorem Ex.new {F : Hp} {p : Addr} {o : HO} (h : F p = none) : Ex F (upd F p o) := by
  refine ⟨fun a u r => ?_, fun a u k r => ?_⟩
  · exact (Rd.upd fun z => by rw [z] at r; exact absurd h (Rd.someOf r)).mpr r
  · rw [upd_ne fun z => by rw [z, h] at r; cases r]; exact r
theorem Ex.put {F H : Hp} {p : Addr} {o : HO} (e : Ex F H) (h : F p = none) : Ex F (upd H p o) := by
  refine ⟨fun a u r => ?_, fun a u k r => ?_⟩
  · exact (Rd.upd fun z => by rw [z] at r; exact absurd h (Rd.someOf r)).mpr (e.rd a u r)
  · rw [upd_ne fun z => by rw [z, h] at r; cases r]; exact e.tp a u k r
theorem Ex.both {F H : Hp} {p : Addr} {o : HO} (e : Ex F H) : Ex (upd F p o) (upd H p o) := by
  refine ⟨fun a u r => ?_, fun a u k r => ?_⟩
  · by_cases hne : a = p
    · subst hne
      unfold Rd at r ⊢
      rw [upd_same] at r ⊢
      exact r
    · exact (Rd.upd hne).mpr (e.rd a u ((Rd.upd hne).mp r))
  · by_cases hne : a = p
    · subst hne
      rw [upd_same] at r ⊢
      exact r
    · rw [upd_ne hne] at r ⊢
      exact e.tp a u k r
/-- freeze what stands at p -/
theorem Ex.take {F H : Hp} {p : Addr} {o : HO} (e : Ex F H) (h : H p = some o) : Ex (upd F p o) H := by
  refine ⟨fun a u r => ?_, fun a u k r => ?_⟩
  · by_cases hne : a = p
    · subst hne
      unfold Rd at r ⊢
      rw [upd_same] at r
      rw [h]
      exact r
    · exact e.rd a u ((Rd.upd hne).mp r)
  · by_cases hne : a = p
    · subst hne
      rw [upd_same] at r
      rw [h]
      exact r
    · rw [upd_ne hne] at r
      exact e.tp a u k r

/-- what a law's text fixes: the written part; may a written tuple be a value -/
structure Ct where
  K : Frag
  kt : Bool
def TupAt (c : Ct) (F : Hp) (a : Addr) (xs : List V) : Prop := F a = some (.tup xs) ∨ (c.kt = true ∧ SqT c.K F a xs)
def LstAt (_ : Ct) (F : Hp) (a : Addr) (xs : List V) : Prop := F a = some (.lst xs)
theorem TupAt.sq {c : Ct} {F : Hp} {a : Addr} {xs : List V} (h : TupAt c F a xs) : SqT c.K F a xs := by
  rcases h with h | h
  · exact .inl (.inl h)
  · exact h.2
theorem LstAt.sq {c : Ct} {F : Hp} {a : Addr} {xs : List V} (h : LstAt c F a xs) : SqL c.K F a xs := .inl (.inl h)
theorem exT {K : Frag} {F H : Hp} {a : Addr} {xs : List V} (e : Ex F H) (h : SqT K F a xs) : SqT K H a xs := by
  rcases h with h | h
  · exact .inl (e.rd _ _ h)
  · exact .inr h
theorem exL {K : Frag} {F H : Hp} {a : Addr} {xs : List V} (e : Ex F H) (h : SqL K F a xs) : SqL K H a xs := by
  rcases h with h | h
  · exact .inl (e.rd _ _ h)
  · exact .inr h
theorem TupAt.ex {c : Ct} {F H : Hp} {a : Addr} {xs : List V} (e : Ex F H) (h : TupAt c F a xs) : TupAt c H a xs := by
  rcases h with h | h
  · exact .inl (e.tp _ _ trivial h)
  · exact .inr ⟨h.1, exT e h.2⟩
theorem LstAt.ex {c : Ct} {F H : Hp} {a : Addr} {xs : List V} (e : Ex F H) (h : LstAt c F a xs) : LstAt c H a xs := e.tp _ _ trivial h

/-- a key as data -/
def kD : Key → D
  | .inl i => .int i
  | .inr s => .str s
def tkD (ks : List Key) : D := .tuple (ks.map kD)

/-- a list that is only read (the script, a list that the top wrote), as data -/
abbrev scrD (ds : List D) : D := .dict [(.bool false, .list ds)]
/-- a dict as data: its kind (are its keys tuples), its pairs -/
abbrev dct (t : Bool) (kvs : List (D × D)) : D := .dict ((.none, .bool t) :: kvs)
mutual
/-- in the heap F the value is the data -/
inductive Rep (c : Ct) (F : Hp) : D → V → Prop
  | non : Rep c F .none .non
  | bl (b : Bool) : Rep c F (.bool b) (.bl b)
  | int (i : Int) : Rep c F (.int i) (.int i)
  | str (s : Str) : Rep c F (.str s) (.str s)
  | lst {a : Addr} {xs : List V} {ds : List D} : LstAt c F a xs → Reps c F ds xs → Rep c F (.list ds) (.ref a)
  | tup {a : Addr} {xs : List V} {ds : List D} : TupAt c F a xs → Reps c F ds xs → Rep c F (.tuple ds) (.ref a)
  | dK {a : Addr} {ws : List (Key × V)} {kvs : List (D × D)} : Rd F a (.dK ws) → RepK c F kvs ws → Rep c F (.dict ((.none, .bool false) :: kvs)) (.ref a)
  | dT {a : Addr} {ws : List (List Key × V)} {kvs : List (D × D)} : Rd F a (.dT ws) → RepT c F kvs ws → Rep c F (.dict ((.none, .bool true) :: kvs)) (.ref a)
  | scr {a : Addr} {xs : List V} {ds : List D} : SqL c.K F a xs → Reps c F ds xs → Rep c F (.dict [(.bool false, .list ds)]) (.ref a)
inductive Reps (c : Ct) (F : Hp) : List D → List V → Prop
  | nil : Reps c F [] []
  | cons {d : D} {v : V} {ds : List D} {vs : List V} : Rep c F d v → Reps c F ds vs → Reps c F (d :: ds) (v :: vs)
inductive RepK (c : Ct) (F : Hp) : List (D × D) → List (Key × V) → Prop
  | nil : RepK c F [] []
  | cons {k : Key} {d : D} {v : V} {kvs : List (D × D)} {ws : List (Key × V)} : Rep c F d v → RepK c F kvs ws → RepK c F ((kD k, d) :: kvs) ((k, v) :: ws)
inductive RepT (c : Ct) (F : Hp) : List (D × D) → List (List Key × V) → Prop
  | nil : RepT c F [] []
  | cons {k : List Key} {d : D} {v : V} {kvs : List (D × D)} {ws : List (List Key × V)} : Rep c F d v → RepT c F kvs ws → RepT c F ((tkD k, d) :: kvs) ((k, v) :: ws)
end
section
variable {c : Ct} {F H : Hp} {d : D} {v : V} {ds : List D} {vs : List V}
mutual
theorem Rep.ex (e : Ex F H) : ∀ {d : D} {v : V}, Rep c F d v → Rep c H d v
  | _, _, .non => .non
  | _, _, .bl b => .bl b
  | _, _, .int i => .int i
  | _, _, .str s => .str s
  | _, _, .lst h r => .lst (h.ex e) (Reps.ex e r)
  | _, _, .tup h r => .tup (h.ex e) (Reps.ex e r)
  | _, _, .dK h r => .dK (e.rd _ _ h) (RepK.ex e r)
  | _, _, .dT h r => .dT (e.rd _ _ h) (RepT.ex e r)
  | _, _, .scr h r => .scr (exL e h) (Reps.ex e r)
theorem Reps.ex (e : Ex F H) : ∀ {ds : List D} {vs : List V}, Reps c F ds vs → Reps c H ds vs
  | _, _, .nil => .nil
  | _, _, .cons h r => .cons (Rep.ex e h) (Reps.ex e r)
theorem RepK.ex (e : Ex F H) : ∀ {ds : List (D × D)} {vs : List (Key × V)}, RepK c F ds vs → RepK c H ds vs
  | _, _, .nil => .nil
  | _, _, .cons h r => .cons (Rep.ex e h) (RepK.ex e r)
theorem RepT.ex (e : Ex F H) : ∀ {ds : List (D × D)} {vs : List (List Key × V)}, RepT c F ds vs → RepT c H ds vs
  | _, _, .nil => .nil
  | _, _, .cons h r => .cons (Rep.ex e h) (RepT.ex e r)
end
theorem Reps.length : ∀ {ds : List D} {vs : List V}, Reps c F ds vs → vs.length = ds.length
  | _, _, .nil => rfl
  | _, _, .cons _ r => by rw [List.length_cons, List.length_cons, Reps.length r]
theorem Reps.get : ∀ {ds : List D} {vs : List V} {i : Nat} {v : V}, Reps c F ds vs → vs[i]? = some v → ∃ d, ds[i]? = some d ∧ Rep c F d v
  | _, _, _, _, .nil, h => by simp at h
  | _, _, 0, _, .cons h _, e => by simp at e; subst e; exact ⟨_, rfl, h⟩
  | _, _, i + 1, _, .cons _ r, e => by
    obtain ⟨d, h1, h2⟩ := Reps.get (i := i) r (by simpa using e)
    exact ⟨d, by simpa using h1, h2⟩
theorem Reps.getD : ∀ {ds : List D} {vs : List V} {i : Nat} {d : D}, Reps c F ds vs → ds[i]? = some d → ∃ v, vs[i]? = some v ∧ Rep c F d v
  | _, _, _, _, .nil, h => by simp at h
  | _, _, 0, _, .cons h _, e => by simp at e; subst e; exact ⟨_, rfl, h⟩
  | _, _, i + 1, _, .cons _ r, e => by
    obtain ⟨d, h1, h2⟩ := Reps.getD (i := i) r (by simpa using e)
    exact ⟨d, by simpa using h1, h2⟩
theorem Reps.append : ∀ {ds es : List D} {vs ws : List V}, Reps c F ds vs → Reps c F es ws → Reps c F (ds ++ es) (vs ++ ws)
  | _, _, _, _, .nil, s => s
  | _, _, _, _, .cons h r, s => .cons h (Reps.append r s)
theorem Reps.take : ∀ {ds : List D} {vs : List V} (n : Nat), Reps c F ds vs → Reps c F (ds.take n) (vs.take n)
  | _, _, 0, _ => .nil
  | _, _, _ + 1, .nil => .nil
  | _, _, n + 1, .cons h r => .cons h (Reps.take n r)
theorem Reps.drop : ∀ {ds : List D} {vs : List V} (n : Nat), Reps c F ds vs → Reps c F (ds.drop n) (vs.drop n)
  | _, _, 0, r => r
  | _, _, _ + 1, .nil => .nil
  | _, _, n + 1, .cons _ r => Reps.drop n r
theorem Reps.set {d : D} {v : V} (h : Rep c F d v) : ∀ {ds : List D} {vs : List V} (i : Nat), Reps c F ds vs → Reps c F (ds.set i d) (vs.set i v)
  | _, _, _, .nil => .nil
  | _, _, 0, .cons _ t => .cons h t
  | _, _, i + 1, .cons q t => .cons q (Reps.set h i t)
theorem Reps.rev : ∀ {ds : List D} {vs : List V}, Reps c F ds vs → Reps c F ds.reverse vs.reverse
  | _, _, .nil => .nil
  | _, _, .cons h r => by
    rw [List.reverse_cons, List.reverse_cons]
    exact (Reps.rev r).append (.cons h .nil)
theorem Reps.ints : ∀ (ns : List Int), Reps c F (ns.map PyData.int) (ns.map V.int)
  | [] => .nil
  | n :: r => .cons (.int n) (Reps.ints r)
theorem Reps.ofInts : ∀ {ns : List Int} {vs : List V}, Reps c F (ns.map PyData.int) vs → vs = ns.map V.int
  | [], _, h => by cases h; rfl
  | n :: r, _, h => by
    cases h with
    | cons h1 h2 =>
      cases h1
      rw [Reps.ofInts h2]; rfl
mutual
/-- read by the library's relation -/
theorem Rep.dp : ∀ {d : D} {v : V}, Rep c F d v → PyData.plain d = true → Dp c.K F v d
  | _, _, .non, _ => .non
  | _, _, .bl b, _ => .bl b
  | _, _, .int i, _ => .int i
  | _, _, .str s, _ => .str s
  | _, _, .lst h r, p => .lst h.sq (Reps.dp r (by simpa [PyData.plain] using p))
  | _, _, .tup h r, p => .tup h.sq (Reps.dp r (by simpa [PyData.plain] using p))
  | _, _, .dK _ _, p => by simp [PyData.plain] at p
  | _, _, .dT _ _, p => by simp [PyData.plain] at p
  | _, _, .scr _ _, p => by simp [PyData.plain] at p
theorem Reps.dp : ∀ {ds : List D} {vs : List V}, Reps c F ds vs → PyData.plainAll ds = true → DpAll c.K F vs ds
  | _, _, .nil, _ => .nil
  | _, _, .cons h r, p => by
    simp only [PyData.plainAll, Bool.and_eq_true] at p
    exact .cons (Rep.dp h p.1) (Reps.dp r p.2)
end
end
end Pd
end
section
set_option Elab.async false
set_option linter.all false
set_option maxRecDepth 100000
set_option maxHeartbeats 4000000
namespace Pd
open PySem L2

/-- what stands at p may be written and is the data (its items stand in F) -/
inductive Own (c : Ct) (F H : Hp) (p : Addr) : D → Prop
  | lst {xs : List V} {ds : List D} : H p = some (.lst xs) → Reps c F ds xs → Own c F H p (.list ds)
  | dK {ws : List (Key × V)} {kvs : List (D × D)} : H p = some (.dK ws) → RepK c F kvs ws → Own c F H p (.dict ((.none, .bool false) :: kvs))
  | dT {ws : List (List Key × V)} {kvs : List (D × D)} : H p = some (.dT ws) → RepT c F kvs ws → Own c F H p (.dict ((.none, .bool true) :: kvs))
theorem Own.there {c : Ct} {F H : Hp} {p : Addr} {d : D} (h : Own c F H p d) : H p ≠ none := by
  cases h with
  | lst h _ => rw [h]; exact Option.some_ne_none _
  | dK h _ => rw [h]; exact Option.some_ne_none _
  | dT h _ => rw [h]; exact Option.some_ne_none _
theorem Own.ex {c : Ct} {F H F' H' : Hp} {p : Addr} {d : D} (h : Own c F H p d) (e : Ex F F') (k : H' p = H p) : Own c F' H' p d := by
  cases h with
  | lst h r => exact .lst (k.trans h) (r.ex e)
  | dK h r => exact .dK (k.trans h) (r.ex e)
  | dT h r => exact .dT (k.trans h) (r.ex e)
/-- frozen -/
theorem Own.froze {c : Ct} {F H : Hp} {p : Addr} {d : D} (h : Own c F H p d) (hp : F p = none) : ∃ o, H p = some o ∧ Rep c (upd F p o) d (.ref p) := by
  cases h with
  | lst h r => exact ⟨_, h, .lst upd_same (r.ex (Ex.new hp))⟩
  | dK h r => exact ⟨_, h, .dK (.inl upd_same) (r.ex (Ex.new hp))⟩
  | dT h r => exact ⟨_, h, .dT (.inl upd_same) (r.ex (Ex.new hp))⟩

/-- a slot of the frame: nothing known, a value, an object of one's own, an object that was handed in to be changed, the error that is handled (its class by name) -/
inductive Sl where
  | u | v (d : D) | o (d : D) | b (d : D) | e (n : String)
abbrev Env := List Sl
/-- the entry of a def -/
structure Bs where
  c : Ct
  H0 : Hp
  F0 : Hp
  io : Nat → Option Addr
  ec : String → Addr
  hx : Addr
  hn : String
/-- another entry -/
abbrev Bs.rb (B : Bs) (H0 F0 : Hp) : Bs := { B with H0 := H0, F0 := F0 }
def SlOk (B : Bs) (F H : Hp) (i : Nat) : Sl → Option V → Prop
  | .u, _ => True
  | .v d, x => ∃ v, x = some v ∧ Rep B.c F d v
  | .o d, x => ∃ p, x = some (.ref p) ∧ F p = none ∧ B.H0 p = none ∧ Own B.c F H p d
  | .b d, x => ∃ p, x = some (.ref p) ∧ F p = none ∧ B.io i = some p ∧ Own B.c F H p d
  | .e n, x => x = some (.ref B.hx) ∧ B.hn = n
/-- the slot's object may be written -/
def Sl.mine : Sl → Option D
  | .o d => some d
  | .b d => some d
  | _ => none
theorem SlOk.mine {B : Bs} {F H : Hp} {i : Nat} {s : Sl} {x : Option V} {d : D} (h : SlOk B F H i s x) (e : s.mine = some d) : ∃ p, x = some (.ref p) ∧ F p = none ∧ Own B.c F H p d := by
  cases s with
  | u => cases e
  | v d => cases e
  | o d' => cases e; obtain ⟨p, h1, h2, _, h3⟩ := h; exact ⟨p, h1, h2, h3⟩
  | b d' => cases e; obtain ⟨p, h1, h2, _, h3⟩ := h; exact ⟨p, h1, h2, h3⟩
  | e n => cases e
/-- the state -/
structure St (B : Bs) (F : Hp) (σ : L2.St) (H : Hp) (ρ : Env) : Prop where
  len : σ.length = ρ.length
  ex : Ex F H
  sl : ∀ (i : Nat) (s : Sl) (x : Option V), ρ[i]? = some s → σ[i]? = some x → SlOk B F H i s x
  sep : ∀ (i j : Nat) (s t : Sl) (p : Addr), ρ[i]? = some s → ρ[j]? = some t → s.mine ≠ none → t.mine ≠ none → σ[i]? = some (some (.ref p)) → σ[j]? = some (some (.ref p)) → i = j
  keep : ∀ q o, B.H0 q = some o → (∀ i, B.io i ≠ some q) → H q = some o
  low : Ex B.F0 F
  new : ∀ q, B.H0 q ≠ none → B.F0 q = none → F q = none
  dom : ∀ q, B.H0 q ≠ none → H q ≠ none
  iow : ∀ i q, B.io i = some q → B.H0 q ≠ none
section
variable {B : Bs} {F H F' H' : Hp} {σ : L2.St} {ρ : Env} {d : D} {x : V}
/-- the heap grows: nothing that stood is changed, what F had stays -/
structure Grow (F H F' H' : Hp) : Prop where
  f : Ex F F'
  h : ∀ q o, H q = some o → H' q = some o
  ex : Ex F' H'
  new : ∀ q, H q ≠ none → F q = none → F' q = none
theorem Grow.refl (e : Ex F H) : Grow F H F H := ⟨Ex.refl F, fun _ _ h => h, e, fun _ _ h => h⟩
theorem Grow.trans {F1 H1 F2 H2 : Hp} (a : Grow F H F1 H1) (b : Grow F1 H1 F2 H2) : Grow F H F2 H2 where
  f := a.f.trans b.f
  h := fun q o e => b.h q o (a.h q o e)
  ex := b.ex
  new := fun q e1 e2 => b.new q (by
    cases e : H q with
    | none => exact absurd e e1
    | some o => rw [a.h q o e]; exact Option.some_ne_none _) (a.new q e1 e2)
/-- a new object that stays as it is -/
theorem Grow.obj {p : Addr} {o : HO} (e : Ex F H) (hp : H p = none) : Grow F H (upd F p o) (upd H p o) where
  f := Ex.new (e.free hp)
  h := fun q u h => by rw [upd_ne (ne_of_none h hp)]; exact h
  ex := e.both
  new := fun q h1 h2 => by
    have hne : q ≠ p := fun z => h1 (by rw [z]; exact hp)
    rw [upd_ne hne]; exact h2
/-- a new object that may be written -/
theorem Grow.own {p : Addr} {o : HO} (e : Ex F H) (hp : H p = none) : Grow F H F (upd H p o) where
  f := Ex.refl F
  h := fun q u h => by rw [upd_ne (ne_of_none h hp)]; exact h
  ex := e.put (e.free hp)
  new := fun q h1 h2 => h2
theorem Own.grow {p : Addr} (h : Own B.c F H p d) (g : Grow F H F' H') : Own B.c F' H' p d := by
  cases h with
  | lst h r => exact .lst (g.h _ _ h) (r.ex g.f)
  | dK h r => exact .dK (g.h _ _ h) (r.ex g.f)
  | dT h r => exact .dT (g.h _ _ h) (r.ex g.f)
theorem SlOk.grow {i : Nat} {s : Sl} {x : Option V} (h : SlOk B F H i s x) (g : Grow F H F' H') : SlOk B F' H' i s x := by
  cases s with
  | u => trivial
  | v d => obtain ⟨v, h1, h2⟩ := h; exact ⟨v, h1, h2.ex g.f⟩
  | o d => obtain ⟨p, h1, h2, h3, h4⟩ := h; exact ⟨p, h1, g.new p h4.there h2, h3, h4.grow g⟩
  | b d => obtain ⟨p, h1, h2, h3, h4⟩ := h; exact ⟨p, h1, g.new p h4.there h2, h3, h4.grow g⟩
  | e n => exact h
theorem Grow.dom (g : Grow F H F' H') {q : Addr} (h : H q ≠ none) : H' q ≠ none := by
  cases e : H q with
  | none => exact absurd e h
  | some o => rw [g.h q o e]; exact Option.some_ne_none _
theorem St.grow (S : St B F σ H ρ) (g : Grow F H F' H') : St B F' σ H' ρ where
  len := S.len
  ex := g.ex
  sl := fun i s x h1 h2 => (S.sl i s x h1 h2).grow g
  sep := S.sep
  keep := fun q o h1 h2 => g.h q o (S.keep q o h1 h2)
  low := S.low.trans g.f
  new := fun q h1 h2 => g.new q (S.dom q h1) (S.new q h1 h2)
  dom := fun q h => g.dom (S.dom q h)
  iow := S.iow
theorem St.fresh (S : St B F σ H ρ) {p : Addr} (h : H p = none) : B.H0 p = none := by
  cases e : B.H0 p with
  | none => rfl
  | some o => exact absurd h (S.dom p (by rw [e]; exact Option.some_ne_none _))
/-- an own object at p becomes a value: nothing else is lost -/
theorem St.freezeAt (S : St B F σ H ρ) {p : Addr} {o : HO} (hp : F p = none) (h0 : B.H0 p = none) (ho : H p = some o) (hs : ∀ (i : Nat) (s : Sl), ρ[i]? = some s → s.mine ≠ none → σ[i]? ≠ some (some (.ref p))) : St B (upd F p o) σ H ρ where
  len := S.len
  ex := S.ex.take ho
  sl := fun i s x h1 h2 => by
    have q := S.sl i s x h1 h2
    cases s with
    | u => trivial
    | v d => obtain ⟨v, e1, e2⟩ := q; exact ⟨v, e1, e2.ex (Ex.new hp)⟩
    | o d =>
      obtain ⟨a, e1, e2, e3, e4⟩ := q
      subst e1
      have hne : a ≠ p := fun z => hs i _ h1 (by intro z; cases z) (by rw [h2, z])
      exact ⟨a, rfl, by rw [upd_ne hne]; exact e2, e3, e4.ex (Ex.new hp) rfl⟩
    | b d =>
      obtain ⟨a, e1, e2, e3, e4⟩ := q
      subst e1
      have hne : a ≠ p := fun z => hs i _ h1 (by intro z; cases z) (by rw [h2, z])
      exact ⟨a, rfl, by rw [upd_ne hne]; exact e2, e3, e4.ex (Ex.new hp) rfl⟩
    | e n => exact q
  sep := S.sep
  keep := S.keep
  low := S.low.trans (Ex.new hp)
  new := fun q h1 h2 => by
    have hne : q ≠ p := fun z => h1 (by rw [z]; exact h0)
    rw [upd_ne hne]; exact S.new q h1 h2
  dom := S.dom
  iow := S.iow
/-- a slot is forgotten or told otherwise -/
theorem St.setSl (S : St B F σ H ρ) (i : Nat) (s : Sl) (hs : s.mine = none) (h : ∀ x, σ[i]? = some x → SlOk B F H i s x) : St B F σ H (ρ.set i s) where
  len := by rw [List.length_set]; exact S.len
  ex := S.ex
  sl := fun j t x h1 h2 => by
    by_cases e : i = j
    · subst e
      have hl : i < ρ.length := by rw [← S.len]; exact (List.getElem?_eq_some_iff.mp h2).1
      rw [List.getElem?_set_self hl] at h1
      cases h1
      exact h x h2
    · rw [List.getElem?_set_ne e] at h1
      exact S.sl j t x h1 h2
  sep := fun j k t r p h1 h2 h3 h4 h5 h6 => by
    have out : ∀ (m : Nat) (t : Sl), (ρ.set i s)[m]? = some t → t.mine ≠ none → ρ[m]? = some t := fun m t e1 e2 => by
      by_cases e : i = m
      · subst e
        by_cases hl : i < ρ.length
        · rw [List.getElem?_set_self hl] at e1; cases e1; exact absurd hs e2
        · rw [List.getElem?_eq_none (by rw [List.length_set]; omega)] at e1; cases e1
      · rw [List.getElem?_set_ne e] at e1; exact e1
    exact S.sep j k t r p (out j t h1 h3) (out k r h2 h4) h3 h4 h5 h6
  keep := S.keep
  low := S.low
  new := S.new
  dom := S.dom
  iow := S.iow

/-- a result: a value, the object of a slot, a new object of one's own -/
inductive Res where
  | v (d : D) | s (i : Nat) | f (d : D)
def ResOk (B : Bs) (F : Hp) (σ : L2.St) (H : Hp) (ρ : Env) : Res → V → Prop
  | .v d, x => Rep B.c F d x
  | .s i, x => σ[i]? = some (some x)
  | .f d, x => ∃ p, x = .ref p ∧ F p = none ∧ B.H0 p = none ∧ Own B.c F H p d ∧ ∀ (i : Nat) (s : Sl), ρ[i]? = some s → s.mine ≠ none → σ[i]? ≠ some (some (.ref p))
/-- what a result is worth -/
def look (ρ : Env) : Res → Option D
  | .v d => some d
  | .s i => match ρ[i]? with
    | some (.o d) => some d
    | some (.b d) => some d
    | some (.v d) => some d
    | _ => none
  | .f d => some d
/-- a new own object's result is made a value -/
def Res.hold : Res → Res
  | .f d => .v d
  | r => r
theorem look_hold (ρ : Env) (r : Res) : look ρ r.hold = look ρ r := by cases r <;> rfl
theorem ResOk.hold (S : St B F σ H ρ) {r : Res} (h : ResOk B F σ H ρ r x) : ∃ F', Ex F F' ∧ St B F' σ H ρ ∧ ResOk B F' σ H ρ r.hold x := by
  cases r with
  | v d => exact ⟨F, Ex.refl F, S, h⟩
  | s i => exact ⟨F, Ex.refl F, S, h⟩
  | f d =>
    obtain ⟨p, rfl, hp, h0, ho, hs⟩ := h
    obtain ⟨o, e, r⟩ := ho.froze hp
    exact ⟨upd F p o, Ex.new hp, S.freezeAt hp h0 e hs, r⟩
/-- to be read: the outermost object may be one's own -/
inductive RdX (c : Ct) (F H : Hp) : D → V → Prop
  | rep {d : D} {x : V} : Rep c F d x → RdX c F H d x
  | own {d : D} {p : Addr} : Own c F H p d → RdX c F H d (.ref p)
theorem ResOk.rd (S : St B F σ H ρ) {r : Res} (h : ResOk B F σ H ρ r x) {d : D} (hl : look ρ r = some d) : RdX B.c F H d x := by
  cases r with
  | v d' => cases hl; exact .rep h
  | f d' => cases hl; obtain ⟨p, rfl, _, _, ho, _⟩ := h; exact .own ho
  | s i =>
    have h1 : σ[i]? = some (some x) := h
    cases h2 : ρ[i]? with
    | none => simp only [look, h2] at hl; cases hl
    | some s =>
      have q := S.sl i s _ h2 h1
      simp only [look, h2] at hl
      cases s with
      | u => cases hl
      | v _ => cases hl; obtain ⟨v, e1, e2⟩ := q; cases e1; exact .rep e2
      | o _ => cases hl; obtain ⟨p, e1, _, _, e4⟩ := q; cases e1; exact .own e4
      | b _ => cases hl; obtain ⟨p, e1, _, _, e4⟩ := q; cases e1; exact .own e4
      | e _ => cases hl
end
end Pd
end
section
set_option Elab.async false
set_option linter.all false
set_option maxRecDepth 100000
set_option maxHeartbeats 4000000
namespace Pd
open PySem L2

/-- what an expression comes to -/
inductive Out where
  | ok (r : Res) (ρ : Env) | ex (c : String) (ρ : Env) | bad
abbrev Ev := Env → Out
def Out.bd : Out → (Res → Env → Out) → Out
  | .ok r ρ, k => k r ρ
  | .ex c ρ, _ => .ex c ρ
  | .bad, _ => .bad
def OutOk (B : Bs) (W : WX) (F : Hp) (σ : L2.St) (Q : VK) : Out → Prop
  | .ok r ρ' => ∀ F' H' x, Ex F F' → St B F' σ H' ρ' → ResOk B F' σ H' ρ' r x → Q x H'
  | .ex c ρ' => ∀ F' H', Ex F F' → St B F' σ H' ρ' → W (.ref (B.ec c)) none σ H'
  | .bad => False
/-- a test -/
inductive OutT where
  | ok (b : Bool) (ρ : Env) | ex (c : String) (ρ : Env) | bad
abbrev EvT := Env → OutT
def OutT.bd : OutT → (Bool → Env → OutT) → OutT
  | .ok r ρ, k => k r ρ
  | .ex c ρ, _ => .ex c ρ
  | .bad, _ => .bad
def OutTOk (B : Bs) (W : WX) (F : Hp) (σ : L2.St) (Q : Bool → Hp → Prop) : OutT → Prop
  | .ok b ρ' => ∀ F' H', Ex F F' → St B F' σ H' ρ' → Q b H'
  | .ex c ρ' => ∀ F' H', Ex F F' → St B F' σ H' ρ' → W (.ref (B.ec c)) none σ H'
  | .bad => False
def Out.bdT : Out → (Res → Env → OutT) → OutT
  | .ok r ρ, k => k r ρ
  | .ex c ρ, _ => .ex c ρ
  | .bad, _ => .bad
def OutT.bdE : OutT → (Bool → Env → Out) → Out
  | .ok r ρ, k => k r ρ
  | .ex c ρ, _ => .ex c ρ
  | .bad, _ => .bad
/-- arguments -/
inductive OutA where
  | ok (r : List Res) (ρ : Env) | ex (c : String) (ρ : Env) | bad
abbrev EvA := Env → OutA
def OutA.bd : OutA → (List Res → Env → OutA) → OutA
  | .ok r ρ, k => k r ρ
  | .ex c ρ, _ => .ex c ρ
  | .bad, _ => .bad
def Out.bdA : Out → (Res → Env → OutA) → OutA
  | .ok r ρ, k => k r ρ
  | .ex c ρ, _ => .ex c ρ
  | .bad, _ => .bad
def OutA.bdE : OutA → (List Res → Env → Out) → Out
  | .ok r ρ, k => k r ρ
  | .ex c ρ, _ => .ex c ρ
  | .bad, _ => .bad
/-- several results, the vectors' values -/
inductive RessOk (B : Bs) (F : Hp) (σ : L2.St) (H : Hp) (ρ : Env) : List Res → List V → Prop
  | nil : RessOk B F σ H ρ [] []
  | cons {r : Res} {x : V} {rs : List Res} {xs : List V} : (∀ d, r ≠ .f d) → ResOk B F σ H ρ r x → RessOk B F σ H ρ rs xs → RessOk B F σ H ρ (r :: rs) (x :: xs)
def OutAOk (B : Bs) (W : WX) (F : Hp) (σ : L2.St) (Q : List V → Hp → Prop) : OutA → Prop
  | .ok rs ρ' => ∀ F' H' xs, Ex F F' → St B F' σ H' ρ' → RessOk B F' σ H' ρ' rs xs → Q xs H'
  | .ex c ρ' => ∀ F' H', Ex F F' → St B F' σ H' ρ' → W (.ref (B.ec c)) none σ H'
  | .bad => False

def tE (B : Bs) (W : WX) (e : Ev) : TE := fun σ H Q => ∃ F ρ, St B F σ H ρ ∧ OutOk B W F σ Q (e ρ)
def tT (B : Bs) (W : WX) (e : EvT) : TT := fun σ H Q => ∃ F ρ, St B F σ H ρ ∧ OutTOk B W F σ Q (e ρ)
def tA (B : Bs) (W : WX) (e : EvA) : TA := fun σ H Q => ∃ F ρ, St B F σ H ρ ∧ OutAOk B W F σ Q (e ρ)
abbrev PED (X : Cx) (B : Bs) (W : WX) (x : Expr) (e : Ev) : Prop := PE X x (tE B W e)
abbrev PTD (X : Cx) (B : Bs) (W : WX) (x : Expr) (e : EvT) : Prop := PT X x (tT B W e)
abbrev PWD (X : Cx) (B : Bs) (W : WX) (x : Expr) (e : EvT) : Prop := PW X x (tT B W e)
abbrev PAD (X : Cx) (B : Bs) (W : WX) (xs : List Expr) (e : EvA) : Prop := PA X xs (tA B W e)

theorem pe_wk {X : Cx} {e : Expr} {t t' : TE} (h : PE X e t) (k : ∀ σ H Q, t' σ H Q → t σ H Q) : PE X e t' := ⟨fun pins s σ H Q I q => h.run pins s σ H Q I (k σ H Q q)⟩
theorem pt_wk {X : Cx} {e : Expr} {t t' : TT} (h : PT X e t) (k : ∀ σ H Q, t' σ H Q → t σ H Q) : PT X e t' := ⟨fun pins s σ H Q I q => h.run pins s σ H Q I (k σ H Q q)⟩
theorem pw_wk {X : Cx} {e : Expr} {t t' : TT} (h : PW X e t) (k : ∀ σ H Q, t' σ H Q → t σ H Q) : PW X e t' := ⟨fun wh pins s σ H Q I q => h.run wh pins s σ H Q I (k σ H Q q)⟩
theorem pa_wk {X : Cx} {e : List Expr} {t t' : TA} (h : PA X e t) (k : ∀ σ H Q, t' σ H Q → t σ H Q) : PA X e t' := ⟨fun pos pins s σ H Q I q => h.run pos pins s σ H Q I (k σ H Q q)⟩
section
variable {B : Bs} {W : WX} {F F1 H : Hp} {σ : L2.St} {ρ : Env} {Q : VK}
theorem OutOk.mono {o : Out} (e : Ex F F1) (h : OutOk B W F σ Q o) : OutOk B W F1 σ Q o := by
  cases o with
  | ok r ρ' => exact fun F' H' x e' => h F' H' x (e.trans e')
  | ex c ρ' => exact fun F' H' e' => h F' H' (e.trans e')
  | bad => exact h
theorem OutTOk.mono {o : OutT} {Q : Bool → Hp → Prop} (e : Ex F F1) (h : OutTOk B W F σ Q o) : OutTOk B W F1 σ Q o := by
  cases o with
  | ok r ρ' => exact fun F' H' e' => h F' H' (e.trans e')
  | ex c ρ' => exact fun F' H' e' => h F' H' (e.trans e')
  | bad => exact h
theorem OutAOk.mono {o : OutA} {Q : List V → Hp → Prop} (e : Ex F F1) (h : OutAOk B W F σ Q o) : OutAOk B W F1 σ Q o := by
  cases o with
  | ok r ρ' => exact fun F' H' x e' => h F' H' x (e.trans e')
  | ex c ρ' => exact fun F' H' e' => h F' H' (e.trans e')
  | bad => exact h
theorem bd_ok {a : Ev} {k : Res → Env → Out} {R : VK} (S : St B F σ H ρ) (h : OutOk B W F σ Q ((a ρ).bd k))
    (step : ∀ r ρ1 F1 H1 x, Ex F F1 → St B F1 σ H1 ρ1 → ResOk B F1 σ H1 ρ1 r x → OutOk B W F1 σ Q (k r ρ1) → R x H1) : tE B W a σ H R := by
  refine ⟨F, ρ, S, ?_⟩
  cases e : a ρ with
  | ok r ρ1 => rw [e] at h; exact fun F1 H1 x e1 S1 R1 => step r ρ1 F1 H1 x e1 S1 R1 (OutOk.mono e1 h)
  | ex c ρ1 => rw [e] at h; exact h
  | bad => rw [e] at h; exact h
theorem bdT_ok {a : Ev} {k : Res → Env → OutT} {R : VK} {Q : Bool → Hp → Prop} (S : St B F σ H ρ) (h : OutTOk B W F σ Q ((a ρ).bdT k))
    (step : ∀ r ρ1 F1 H1 x, Ex F F1 → St B F1 σ H1 ρ1 → ResOk B F1 σ H1 ρ1 r x → OutTOk B W F1 σ Q (k r ρ1) → R x H1) : tE B W a σ H R := by
  refine ⟨F, ρ, S, ?_⟩
  cases e : a ρ with
  | ok r ρ1 => rw [e] at h; exact fun F1 H1 x e1 S1 R1 => step r ρ1 F1 H1 x e1 S1 R1 (OutTOk.mono e1 h)
  | ex c ρ1 => rw [e] at h; exact h
  | bad => rw [e] at h; exact h
theorem bdA_ok {a : Ev} {k : Res → Env → OutA} {R : VK} {Q : List V → Hp → Prop} (S : St B F σ H ρ) (h : OutAOk B W F σ Q ((a ρ).bdA k))
    (step : ∀ r ρ1 F1 H1 x, Ex F F1 → St B F1 σ H1 ρ1 → ResOk B F1 σ H1 ρ1 r x → OutAOk B W F1 σ Q (k r ρ1) → R x H1) : tE B W a σ H R := by
  refine ⟨F, ρ, S, ?_⟩
  cases e : a ρ with
  | ok r ρ1 => rw [e] at h; exact fun F1 H1 x e1 S1 R1 => step r ρ1 F1 H1 x e1 S1 R1 (OutAOk.mono e1 h)
  | ex c ρ1 => rw [e] at h; exact h
  | bad => rw [e] at h; exact h
theorem tbd_ok {a : EvT} {k : Bool → Env → OutT} {R : Bool → Hp → Prop} {Q : Bool → Hp → Prop} (S : St B F σ H ρ) (h : OutTOk B W F σ Q ((a ρ).bd k))
    (step : ∀ r ρ1 F1 H1, Ex F F1 → St B F1 σ H1 ρ1 → OutTOk B W F1 σ Q (k r ρ1) → R r H1) : tT B W a σ H R := by
  refine ⟨F, ρ, S, ?_⟩
  cases e : a ρ with
  | ok r ρ1 => rw [e] at h; exact fun F1 H1 e1 S1 => step r ρ1 F1 H1 e1 S1 (OutTOk.mono e1 h)
  | ex c ρ1 => rw [e] at h; exact h
  | bad => rw [e] at h; exact h
theorem tbdE_ok {a : EvT} {k : Bool → Env → Out} {R : Bool → Hp → Prop} (S : St B F σ H ρ) (h : OutOk B W F σ Q ((a ρ).bdE k))
    (step : ∀ r ρ1 F1 H1, Ex F F1 → St B F1 σ H1 ρ1 → OutOk B W F1 σ Q (k r ρ1) → R r H1) : tT B W a σ H R := by
  refine ⟨F, ρ, S, ?_⟩
  cases e : a ρ with
  | ok r ρ1 => rw [e] at h; exact fun F1 H1 e1 S1 => step r ρ1 F1 H1 e1 S1 (OutOk.mono e1 h)
  | ex c ρ1 => rw [e] at h; exact h
  | bad => rw [e] at h; exact h
theorem abd_ok {a : EvA} {k : List Res → Env → Out} {R : List V → Hp → Prop} (S : St B F σ H ρ) (h : OutOk B W F σ Q ((a ρ).bdE k))
    (step : ∀ r ρ1 F1 H1 x, Ex F F1 → St B F1 σ H1 ρ1 → RessOk B F1 σ H1 ρ1 r x → OutOk B W F1 σ Q (k r ρ1) → R x H1) : tA B W a σ H R := by
  refine ⟨F, ρ, S, ?_⟩
  cases e : a ρ with
  | ok r ρ1 => rw [e] at h; exact fun F1 H1 x e1 S1 R1 => step r ρ1 F1 H1 x e1 S1 R1 (OutOk.mono e1 h)
  | ex c ρ1 => rw [e] at h; exact h
  | bad => rw [e] at h; exact h
theorem aabd_ok {a : EvA} {k : List Res → Env → OutA} {R : List V → Hp → Prop} {Q : List V → Hp → Prop} (S : St B F σ H ρ) (h : OutAOk B W F σ Q ((a ρ).bd k))
    (step : ∀ r ρ1 F1 H1 x, Ex F F1 → St B F1 σ H1 ρ1 → RessOk B F1 σ H1 ρ1 r x → OutAOk B W F1 σ Q (k r ρ1) → R x H1) : tA B W a σ H R := by
  refine ⟨F, ρ, S, ?_⟩
  cases e : a ρ with
  | ok r ρ1 => rw [e] at h; exact fun F1 H1 x e1 S1 R1 => step r ρ1 F1 H1 x e1 S1 R1 (OutAOk.mono e1 h)
  | ex c ρ1 => rw [e] at h; exact h
  | bad => rw [e] at h; exact h
theorem ResOk.move {F' H' : Hp} {ρ' : Env} {r : Res} {x : V} (h : ResOk B F σ H ρ r x) (hn : ∀ d, r ≠ .f d) (e : Ex F F') : ResOk B F' σ H' ρ' r x := by
  cases r with
  | v d => exact Rep.ex e h
  | s i => exact h
  | f d => exact absurd rfl (hn d)
theorem hold_ne {r : Res} : ∀ d, r.hold ≠ .f d := by cases r <;> intro d h <;> cases h
theorem RessOk.move {F' H' : Hp} {ρ' : Env} {r : List Res} {x : List V} (h : RessOk B F σ H ρ r x) (e : Ex F F') : RessOk B F' σ H' ρ' r x := by
  induction h with
  | nil => exact .nil
  | cons n h _ ih => exact .cons n (h.move n e) ih

/-- what an operation may hand on, from the heap H of which F stays -/
def NewOk (c : Ct) (F H : Hp) (Q : VK) : Res → Prop
  | .v d => ∀ F' H' z, Grow F H F' H' → Rep c F' d z → Q z H'
  | .f d => ∀ F' H' p, Grow F H F' H' → H p = none → F' p = none → Own c F' H' p d → Q (.ref p) H'
  | .s _ => False
theorem newOk {r : Res} (S : St B F σ H ρ) (h : OutOk B W F σ Q (.ok r ρ)) (hn : ∀ i, r ≠ .s i) : NewOk B.c F H Q r := by
  cases r with
  | v d => exact fun F' H' z g q => h F' H' z g.f (S.grow g) q
  | s i => exact absurd rfl (hn i)
  | f d =>
    refine fun F' H' p g hp hp' ho => h F' H' _ g.f (S.grow g) ⟨p, rfl, hp', S.fresh hp, ho, fun i s h1 h2 h3 => ?_⟩
    have q := S.sl i s _ h1 h3
    cases e : s.mine with
    | none => exact h2 e
    | some d' =>
      obtain ⟨a, e1, _, e3⟩ := q.mine e
      cases e1
      exact e3.there hp
/-- hand on a value that stands -/
theorem NewOk.here {c : Ct} {d : D} {z : V} (e : Ex F H) (h : NewOk c F H Q (.v d)) (r : Rep c F d z) : Q z H := h F H z (Grow.refl e) r
/-- a new list of one's own -/
theorem NewOk.lst {c : Ct} {ds : List D} {xs : List V} {p : Addr} (e : Ex F H) (h : NewOk c F H Q (.f (.list ds))) (r : Reps c F ds xs) (hp : H p = none) : Q (.ref p) (upd H p (.lst xs)) :=
  h F _ p (Grow.own e hp) hp (e.free hp) (.lst upd_same r)
/-- a new tuple -/
theorem NewOk.tup {c : Ct} {ds : List D} {xs : List V} {p : Addr} (e : Ex F H) (h : NewOk c F H Q (.v (.tuple ds))) (r : Reps c F ds xs) (hp : H p = none) : Q (.ref p) (upd H p (.tup xs)) :=
  h _ _ _ (Grow.obj e hp) (.tup (.inl upd_same) (r.ex (Ex.new (e.free hp))))
end

/-! ### names, constants -/
def eVar (i : Nat) : Ev := fun ρ => match ρ[i]? with
  | some (.v d) => .ok (.v d) ρ
  | some (.o _) => .ok (.s i) ρ
  | some (.b _) => .ok (.s i) ρ
  | _ => .bad
def eC (d : D) : Ev := fun ρ => .ok (.v d) ρ
section
variable {X : Cx} {B : Bs} {W : WX} {x y : Expr} {a b : Ev} {pos : Pos}
theorem d_var {i : Nat} (h : PE X x (tVar i)) : PED X B W x (eVar i) := pe_wk h fun σ H Q ⟨F, ρ, S, q⟩ => by
  unfold eVar at q
  cases e : ρ[i]? with
  | none => rw [e] at q; exact q.elim
  | some s =>
    rw [e] at q
    have hl : i < σ.length := by rw [S.len]; exact (List.getElem?_eq_some_iff.mp e).1
    have hs := S.sl i s _ e (List.getElem?_eq_getElem hl)
    have mine : ∀ d, s.mine = some d → OutOk B W F σ Q (.ok (.s i) ρ) → tVar i σ H Q := fun d hd q => by
      obtain ⟨p, e1, _⟩ := hs.mine hd
      refine ⟨.ref p, ?_, q F H _ (Ex.refl F) S ?_⟩
      · rw [List.getElem?_eq_getElem hl, e1]
      · show σ[i]? = _
        rw [List.getElem?_eq_getElem hl, e1]
    cases s with
    | u => exact q.elim
    | v d =>
      obtain ⟨v, e1, e2⟩ := hs
      exact ⟨v, by rw [List.getElem?_eq_getElem hl, e1], q F H v (Ex.refl F) S e2⟩
    | o d => exact mine d rfl q
    | b d => exact mine d rfl q
    | e n => exact q.elim
theorem d_c {d : D} {v : V} (h : PE X x (tC v)) (r : ∀ F, Rep B.c F d v) : PED X B W x (eC d) := pe_wk h fun σ H Q ⟨F, ρ, S, q⟩ => q F H v (Ex.refl F) S (r F)
theorem d_int {i : Int} {j : Nat} : PED X B W (.Constant (.int i) j pos) (eC (.int i)) := d_c pe_int fun _ => .int i
theorem d_bl {i : Bool} {j : Nat} : PED X B W (.Constant (.bool i) j pos) (eC (.bool i)) := d_c pe_bl fun _ => .bl i
theorem d_non {j : Nat} : PED X B W (.Constant .none j pos) (eC .none) := d_c pe_non fun _ => .non
theorem d_str {s : Str} {j : Nat} : PED X B W (.Constant (.str s) j pos) (eC (.str s)) := d_c pe_str fun _ => .str s

/-! ### operations on two values -/
def retOp (ρ : Env) : Option Res → Out
  | some r => .ok r ρ
  | none => .bad
def eOp (f : D → D → Option Res) (a b : Ev) : Ev := fun ρ => (a ρ).bd fun r1 ρ1 => (b ρ1).bd fun r2 ρ2 => match look ρ2 r1, look ρ2 r2 with
  | some d1, some d2 => retOp ρ2 (f d1 d2)
  | _, _ => .bad
/-- an operation by values is worth f -/
def OpD (c : Ct) (r : R2) (f : D → D → Option Res) : Prop := ∀ F H d1 d2 x y res Q, Ex F H → RdX c F H d1 x → RdX c F H d2 y → f d1 d2 = some res → (∀ i, res ≠ .s i) ∧ (NewOk c F H Q res → r x y H Q)
theorem op2 {r : R2} {f : D → D → Option Res} (hf : OpD B.c r f) (σ : L2.St) (H : Hp) (Q : VK) (h : tE B W (eOp f a b) σ H Q) : tOp r (tE B W a) (tE B W b) σ H Q := by
  obtain ⟨F, ρ, S, h⟩ := h
  refine bd_ok S h fun r1 ρ1 F1 H1 x e1 S1 R1 h1 => ?_
  obtain ⟨F1', e1', S1', R1'⟩ := R1.hold S1
  refine bd_ok S1' (h1.mono e1') fun r2 ρ2 F2 H2 y e2 S2 R2 h2 => ?_
  have R1'' : ResOk B F2 σ H2 ρ2 r1.hold x := R1'.move hold_ne e2
  cases l1 : look ρ2 r1 with
  | none => simp only [l1] at h2; exact h2.elim
  | some d1 =>
    cases l2 : look ρ2 r2 with
    | none => simp only [l1, l2] at h2; exact h2.elim
    | some d2 =>
      simp only [l1, l2] at h2
      cases l3 : f d1 d2 with
      | none => rw [l3] at h2; exact h2.elim
      | some res =>
        rw [l3] at h2
        obtain ⟨ns, k⟩ := hf F2 H2 d1 d2 x y res Q S2.ex (R1''.rd S2 (by rw [look_hold]; exact l1)) (R2.rd S2 l2) l3
        exact k (newOk S2 h2 ns)
theorem d_op {op : Operator} {r : R2} {f : D → D → Option Res} (ho : OpR X (binaryOp op) r) (hf : OpD B.c r f) (ha : PED X B W x a) (hb : PED X B W y b) : PED X B W (.BinOp x op y pos) (eOp f a b) :=
  pe_wk (pe_op ho ha hb) (op2 hf)
theorem d_cmp {op : CmpOp} {r : R2} {f : D → D → Option Res} (ho : OpR X (compareOp op) r) (hf : OpD B.c r f) (ha : PED X B W x a) (hb : PED X B W y b) (hm : behindInMarks op y = false) : PED X B W (.Compare x [op] [y] pos) (eOp f a b) :=
  pe_wk (pe_cmpR ho ha hb hm) (op2 hf)
/-- a comparison as a test: its answer is a bool -/
def eOpT (f : D → D → Option Bool) (a b : Ev) : EvT := fun ρ => (a ρ).bdT fun r1 ρ1 => (b ρ1).bdT fun r2 ρ2 => match look ρ2 r1, look ρ2 r2 with
  | some d1, some d2 => match f d1 d2 with
    | some k => .ok k ρ2
    | none => .bad
  | _, _ => .bad
def boolRes (f : D → D → Option Bool) : D → D → Option Res := fun d1 d2 => (f d1 d2).map fun b => .v (.bool b)
theorem d_cmpT {op : CmpOp} {r : R2} {f : D → D → Option Bool} (ho : OpR X (compareOp op) r) (hf : OpD B.c r (boolRes f)) (ha : PED X B W x a) (hb : PED X B W y b) (hm : behindInMarks op y = false) : PTD X B W (.Compare x [op] [y] pos) (eOpT f a b) :=
  pt_wk (pt_cmpR ho ha hb hm) fun σ H Q ⟨F, ρ, S, h⟩ => by
    refine bdT_ok S h fun r1 ρ1 F1 H1 x e1 S1 R1 h1 => ?_
    obtain ⟨F1', e1', S1', R1'⟩ := R1.hold S1
    refine bdT_ok S1' (h1.mono e1') fun r2 ρ2 F2 H2 y e2 S2 R2 h2 => ?_
    have R1'' : ResOk B F2 σ H2 ρ2 r1.hold x := R1'.move hold_ne e2
    cases l1 : look ρ2 r1 with
    | none => simp only [l1] at h2; exact h2.elim
    | some d1 =>
      cases l2 : look ρ2 r2 with
      | none => simp only [l1, l2] at h2; exact h2.elim
      | some d2 =>
        simp only [l1, l2] at h2
        cases l3 : f d1 d2 with
        | none => rw [l3] at h2; exact h2.elim
        | some k =>
          rw [l3] at h2
          obtain ⟨ns, kk⟩ := hf F2 H2 d1 d2 x y (.v (.bool k)) _ S2.ex (R1''.rd S2 (by rw [look_hold]; exact l1)) (R2.rd S2 l2) (by unfold boolRes; rw [l3]; rfl)
          refine kk fun F' H' z g q => ?_
          cases q
          exact ⟨k, rfl, h2 F' H' g.f (S2.grow g)⟩
/-- a bool's expression as a test -/
def eB (a : Ev) : EvT := fun ρ => (a ρ).bdT fun r ρ1 => match look ρ1 r with
  | some (.bool k) => .ok k ρ1
  | _ => .bad
theorem d_val (ha : PED X B W x a) (he : ∀ whole, isTrue x X.env whole = (do let v ← whole; standAt x.pos; holding [v] (truthy v)) := by intro _; rfl) : PTD X B W x (eB a) :=
  pt_wk (pt_val ha he) fun σ H Q ⟨F, ρ, S, h⟩ => by
    refine bdT_ok S h fun r1 ρ1 F1 H1 x e1 S1 R1 h1 => ?_
    cases l1 : look ρ1 r1 with
    | none => simp only [l1] at h1; exact h1.elim
    | some d =>
      have q := R1.rd S1 l1
      simp only [l1] at h1
      cases d with
      | bool k =>
        cases q with
        | rep q => cases q; exact ⟨k, rfl, h1 F1 H1 (Ex.refl _) S1⟩
        | own o => cases o
      | none => exact h1.elim
      | int _ => exact h1.elim
      | str _ => exact h1.elim
      | list _ => exact h1.elim
      | tuple _ => exact h1.elim
      | dict _ => exact h1.elim

/-! ### and, or, not, if -/
def eAnd (a b : EvT) : EvT := fun ρ => (a ρ).bd fun k ρ1 => match k with
  | true => b ρ1
  | false => .ok false ρ1
def eOr (a b : EvT) : EvT := fun ρ => (a ρ).bd fun k ρ1 => match k with
  | true => .ok true ρ1
  | false => b ρ1
def eNot (a : EvT) : EvT := fun ρ => (a ρ).bd fun k ρ1 => .ok (!k) ρ1
/-- a test as a value -/
def eT (a : EvT) : Ev := fun ρ => (a ρ).bdE fun k ρ1 => .ok (.v (.bool k)) ρ1
def eIf (t : EvT) (a b : Ev) : Ev := fun ρ => (t ρ).bdE fun k ρ1 => match k with
  | true => a ρ1
  | false => b ρ1
variable {s t : EvT} {z : Expr} {rest : List Expr}
theorem w_and1 (h : PTD X B W x s) : PWD X B W (.BoolOp .And [x] pos) s := pw_and1 h
theorem w_or1 (h : PTD X B W x s) : PWD X B W (.BoolOp .Or [x] pos) s := pw_or1 h
theorem w_and (h : PTD X B W x s) (h2 : PWD X B W (.BoolOp .And (y :: rest) pos) t) : PWD X B W (.BoolOp .And (x :: y :: rest) pos) (eAnd s t) :=
  pw_wk (pw_and h h2) fun σ H Q ⟨F, ρ, S, h⟩ => tbd_ok S h fun k ρ1 F1 H1 e1 S1 h1 => by
    cases k with
    | true => rw [if_pos rfl]; exact ⟨F1, ρ1, S1, h1⟩
    | false => rw [if_neg Bool.false_ne_true]; exact h1 F1 H1 (Ex.refl _) S1
theorem w_or (h : PTD X B W x s) (h2 : PWD X B W (.BoolOp .Or (y :: rest) pos) t) : PWD X B W (.BoolOp .Or (x :: y :: rest) pos) (eOr s t) :=
  pw_wk (pw_or h h2) fun σ H Q ⟨F, ρ, S, h⟩ => tbd_ok S h fun k ρ1 F1 H1 e1 S1 h1 => by
    cases k with
    | true => rw [if_pos rfl]; exact h1 F1 H1 (Ex.refl _) S1
    | false => rw [if_neg Bool.false_ne_true]; exact ⟨F1, ρ1, S1, h1⟩
theorem t_not (h : PTD X B W x s) : PTD X B W (.UnaryOp .Not x pos) (eNot s) :=
  pt_wk (pt_not h) fun σ H Q ⟨F, ρ, S, h⟩ => tbd_ok S h fun k ρ1 F1 H1 e1 S1 h1 => h1 F1 H1 (Ex.refl _) S1
theorem d_if {c : Expr} (hc : PTD X B W c s) (ha : PED X B W x a) (hb : PED X B W y b) : PED X B W (.IfExp c x y pos) (eIf s a b) :=
  pe_wk (pe_ifExp hc ha hb) fun σ H Q ⟨F, ρ, S, h⟩ => tbdE_ok S h fun k ρ1 F1 H1 e1 S1 h1 => by
    cases k with
    | true => rw [if_pos rfl]; exact ⟨F1, ρ1, S1, h1⟩
    | false => rw [if_neg Bool.false_ne_true]; exact ⟨F1, ρ1, S1, h1⟩
/-- values: bools -/
def eAndV (a b : Ev) : Ev := fun ρ => (a ρ).bd fun r ρ1 => match look ρ1 r with
  | some (.bool true) => b ρ1
  | some (.bool false) => .ok (.v (.bool false)) ρ1
  | _ => .bad
def eOrV (a b : Ev) : Ev := fun ρ => (a ρ).bd fun r ρ1 => match look ρ1 r with
  | some (.bool true) => .ok (.v (.bool true)) ρ1
  | some (.bool false) => b ρ1
  | _ => .bad
def eNotV (a : Ev) : Ev := fun ρ => (a ρ).bd fun r ρ1 => match look ρ1 r with
  | some (.bool k) => .ok (.v (.bool (!k))) ρ1
  | _ => .bad
theorem RdX.bool {c : Ct} {F H : Hp} {k : Bool} {x : V} (h : RdX c F H (.bool k) x) : x = .bl k := by
  cases h with
  | rep q => cases q; rfl
  | own o => cases o
theorem d_one {op : BoolOp} (h : PED X B W x a) : PED X B W (.BoolOp op [x] pos) a := pe_one h
theorem d_and (h : PED X B W x a) (h2 : PED X B W (.BoolOp .And (y :: rest) pos) b) : PED X B W (.BoolOp .And (x :: y :: rest) pos) (eAndV a b) :=
  pe_wk (pe_and h h2) fun σ H Q ⟨F, ρ, S, h⟩ => bd_ok S h fun r ρ1 F1 H1 x e1 S1 R1 h1 => by
    cases l1 : look ρ1 r with
    | none => simp only [l1] at h1; exact h1.elim
    | some d =>
      have q := R1.rd S1 l1
      simp only [l1] at h1
      cases d with
      | bool k =>
        refine ⟨k, q.bool, ?_⟩
        cases k with
        | true => rw [if_pos rfl]; exact ⟨F1, ρ1, S1, h1⟩
        | false => rw [if_neg Bool.false_ne_true]; exact h1 F1 H1 _ (Ex.refl _) S1 (.bl false)
      | _ => exact h1.elim
theorem d_or (h : PED X B W x a) (h2 : PED X B W (.BoolOp .Or (y :: rest) pos) b) : PED X B W (.BoolOp .Or (x :: y :: rest) pos) (eOrV a b) :=
  pe_wk (pe_or h h2) fun σ H Q ⟨F, ρ, S, h⟩ => bd_ok S h fun r ρ1 F1 H1 x e1 S1 R1 h1 => by
    cases l1 : look ρ1 r with
    | none => simp only [l1] at h1; exact h1.elim
    | some d =>
      have q := R1.rd S1 l1
      simp only [l1] at h1
      cases d with
      | bool k =>
        refine ⟨k, q.bool, ?_⟩
        cases k with
        | true => rw [if_pos rfl]; exact h1 F1 H1 _ (Ex.refl _) S1 (.bl true)
        | false => rw [if_neg Bool.false_ne_true]; exact ⟨F1, ρ1, S1, h1⟩
      | _ => exact h1.elim
theorem d_not (h : PED X B W x a) : PED X B W (.UnaryOp .Not x pos) (eNotV a) :=
  pe_wk (pe_not h) fun σ H Q ⟨F, ρ, S, h⟩ => bd_ok S h fun r ρ1 F1 H1 x e1 S1 R1 h1 => by
    cases l1 : look ρ1 r with
    | none => simp only [l1] at h1; exact h1.elim
    | some d =>
      have q := R1.rd S1 l1
      simp only [l1] at h1
      cases d with
      | bool k => exact ⟨k, q.bool, h1 F1 H1 _ (Ex.refl _) S1 (.bl _)⟩
      | _ => exact h1.elim
end
end Pd
end
section
set_option Elab.async false
set_option linter.all false
set_option maxRecDepth 100000
set_option maxHeartbeats 4000000
namespace Pd
open PySem L2

mutual
/-- data without dicts, at most n deep -/
def fit : Nat → D → Bool
  | _, .none => true
  | _, .bool _ => true
  | _, .int _ => true
  | _, .str _ => true
  | 0, .list _ => false
  | 0, .tuple _ => false
  | n + 1, .list xs => fitAll n xs
  | n + 1, .tuple xs => fitAll n xs
  | _, .dict _ => false
def fitAll : Nat → List D → Bool
  | _, [] => true
  | n, x :: xs => fit n x && fitAll n xs
end
mutual
theorem fit_ok : ∀ (n : Nat) (d : D), fit n d = true → PyData.plain d = true ∧ PyData.depth d ≤ n
  | n, .none, _ => by simp [PyData.plain, PyData.depth]
  | n, .bool _, _ => by simp [PyData.plain, PyData.depth]
  | n, .int _, _ => by simp [PyData.plain, PyData.depth]
  | n, .str _, _ => by simp [PyData.plain, PyData.depth]
  | 0, .list _, h => by simp [fit] at h
  | 0, .tuple _, h => by simp [fit] at h
  | n + 1, .list xs, h => by
    have q := fitAll_ok n xs (by simpa [fit] using h)
    simp only [PyData.plain, PyData.depth]
    exact ⟨q.1, by omega⟩
  | n + 1, .tuple xs, h => by
    have q := fitAll_ok n xs (by simpa [fit] using h)
    simp only [PyData.plain, PyData.depth]
    exact ⟨q.1, by omega⟩
  | 0, .dict _, h => by simp [fit] at h
  | n + 1, .dict _, h => by simp [fit] at h
theorem fitAll_ok : ∀ (n : Nat) (ds : List D), fitAll n ds = true → PyData.plainAll ds = true ∧ PyData.depthAll ds ≤ n
  | n, [], _ => by simp [PyData.plainAll, PyData.depthAll]
  | n, x :: xs, h => by
    simp only [fitAll, Bool.and_eq_true] at h
    have a := fit_ok n x h.1
    have b := fitAll_ok n xs h.2
    simp only [PyData.plainAll, PyData.depthAll, Bool.and_eq_true]
    exact ⟨⟨a.1, b.1⟩, by omega⟩
end
section
variable {c : Ct} {F H : Hp} {x y : V}
theorem RdX.int {i : Int} (h : RdX c F H (.int i) x) : x = .int i := by
  cases h with
  | rep q => cases q; rfl
  | own o => cases o
theorem RdX.str {i : Str} (h : RdX c F H (.str i) x) : x = .str i := by
  cases h with
  | rep q => cases q; rfl
  | own o => cases o
theorem RdX.non (h : RdX c F H .none x) : x = .non := by
  cases h with
  | rep q => cases q; rfl
  | own o => cases o
theorem RdX.list {ds : List D} (e : Ex F H) (h : RdX c F H (.list ds) x) : ∃ a xs, x = .ref a ∧ Rd H a (.lst xs) ∧ Reps c F ds xs := by
  cases h with
  | rep q => cases q with | lst h r => exact ⟨_, _, rfl, .inl (e.tp _ _ trivial h), r⟩
  | own o => cases o with | lst h r => exact ⟨_, _, rfl, .inl h, r⟩
theorem RdX.scr {ds : List D} (e : Ex F H) (h : RdX c F H (scrD ds) x) : ∃ a xs, x = .ref a ∧ SqL c.K H a xs ∧ Reps c F ds xs := by
  cases h with
  | rep q => cases q with | scr h r => exact ⟨_, _, rfl, exL e h, r⟩
  | own o => cases o
theorem RdX.listX {ds : List D} (e : Ex F H) (h : RdX c F H (.list ds) x) : ∃ a xs, x = .ref a ∧ H a = some (.lst xs) ∧ Reps c F ds xs := by
  cases h with
  | rep q => cases q with | lst h r => exact ⟨_, _, rfl, e.tp _ _ trivial h, r⟩
  | own o => cases o with | lst h r => exact ⟨_, _, rfl, h, r⟩
theorem RdX.tuple {ds : List D} (e : Ex F H) (h : RdX c F H (.tuple ds) x) : ∃ a xs, x = .ref a ∧ SqT c.K H a xs ∧ Reps c F ds xs ∧ TupAt c F a xs := by
  cases h with
  | rep q => cases q with | tup h r => exact ⟨_, _, rfl, (h.ex e).sq, r, h⟩
  | own o => cases o
/-- by the library's relation, in H -/
theorem RdX.dp {d : D} (e : Ex F H) (h : RdX c F H d x) (p : PyData.plain d = true) : Dp c.K H x d := by
  cases h with
  | rep q => exact (q.ex e).dp p
  | own o => cases o with
    | lst h r => exact .lst (SqL.of h) ((r.ex e).dp (by simpa [PyData.plain] using p))
    | dK _ _ => simp [PyData.plain] at p
    | dT _ _ => simp [PyData.plain] at p
end

/-! ### numbers -/
/-- a truth that nothing computes -/
noncomputable def yes (p : Prop) : Bool := @decide p (Classical.propDecidable p)
theorem yes_iff {p : Prop} : yes p = true ↔ p := by unfold yes; exact @decide_eq_true_iff p (Classical.propDecidable p)
noncomputable def mulFits (i j : Int) : Bool := yes ((-(2 ^ 64) < i ∧ i < 2 ^ 64) ∨ (-(2 ^ 64) < j ∧ j < 2 ^ 64) ∨ i.natAbs.log2 + j.natAbs.log2 < 1000000)
noncomputable def lineOk (n : Nat) : Bool := yes (n ≤ sizeLine)
noncomputable def divOk (j : Int) : Bool := yes (0 < j ∧ j.natAbs.log2 < 9000)
noncomputable def divN (j : Int) : Bool := yes (j ≠ 0 ∧ j.natAbs < 1073741824)
noncomputable def powOk (i j : Int) : Bool := yes (0 ≤ j ∧ j ≤ 1000000 ∧ i.natAbs < 2 ^ 64)
noncomputable def manyOk (k : Int) : Bool := yes (-(2 ^ 63) ≤ k ∧ k < 2 ^ 63)
noncomputable def fAdd : D → D → Option Res
  | .int i, .int j => some (.v (.int (i + j)))
  | .str a, .str b => if lineOk (a.length + b.length) then some (.v (.str (a ++ b))) else none
  | .list xs, .list ys => if lineOk (xs.length + ys.length) then some (.f (.list (xs ++ ys))) else none
  | .tuple xs, .tuple ys => if lineOk (xs.length + ys.length) then some (.v (.tuple (xs ++ ys))) else none
  | _, _ => none
def fSub : D → D → Option Res
  | .int i, .int j => some (.v (.int (i - j)))
  | _, _ => none
noncomputable def fMul : D → D → Option Res
  | .int i, .int j => if mulFits i j then some (.v (.int (i * j))) else none
  | .list xs, .int k => if manyOk k && lineOk (xs.length * k.toNat) then some (.f (.list (List.replicate k.toNat xs).flatten)) else none
  | .tuple xs, .int k => if decide (xs ≠ []) && decide (2 ≤ k) && decide (k ≤ 1000) && decide (xs.length ≤ 1000) then some (.v (.tuple (List.replicate k.toNat xs).flatten)) else none
  | _, _ => none
noncomputable def fDiv : D → D → Option Res
  | .int i, .int j => if divOk j then some (.v (.int (i / j))) else if divN j then some (.v (.int (i.fdiv j))) else none
  | _, _ => none
def fMod : D → D → Option Res
  | .int i, .int j => if 0 < j then some (.v (.int (i % j))) else if j ≠ 0 then some (.v (.int (i.fmod j))) else none
  | _, _ => none
noncomputable def fPow : D → D → Option Res
  | .int i, .int j => if powOk i j then some (.v (.int (i ^ j.toNat))) else none
  | _, _ => none
noncomputable def fShl : D → D → Option Res
  | .int i, .int j => if powOk i j then some (.v (.int (i * 2 ^ j.toNat))) else none
  | _, _ => none
def fShr : D → D → Option Res
  | .int i, .int j => if 0 ≤ j then some (.v (.int (i / 2 ^ j.toNat))) else none
  | _, _ => none
def fXor : D → D → Option Res
  | .int i, .int j => some (.v (.int (Builtin.bitXor i j)))
  | _, _ => none
def fAnd : D → D → Option Res
  | .int i, .int j => some (.v (.int (Builtin.bitAnd i j)))
  | _, _ => none
theorem sv {d : D} : ∀ i, Res.v d ≠ .s i := fun _ h => by cases h
theorem sf {d : D} : ∀ i, Res.f d ≠ .s i := fun _ h => by cases h
section
variable {X : Cx} {pins : List (Addr × Obj)} {σ : L2.St} {H : Hp} {s : Shared} {l : Addr} {xs : List V}
theorem lstR (I : L2.Inv X pins σ H s) (hH : Rd H l (.lst xs)) : xs.length ≤ sizeLine ∧ ∃ (its : List Value) (n : Nat), Vals xs its ∧ xs.length = its.length ∧ s.heap.get? l = some { cls := .type "list", data := .seq its.toArray n } := by
  obtain ⟨z, its, n, r, e⟩ := hH.ok I.hok
  exact ⟨z, its, n, r, r.length, e⟩
/-- list + list, wherever they stand -/
def rCatL : R2 := fun x y H Q => ∃ l b xs zs, x = .ref l ∧ y = .ref b ∧ Rd H l (.lst xs) ∧ Rd H b (.lst zs) ∧ xs.length + zs.length ≤ sizeLine ∧ ∀ p, H p = none → Q (.ref p) (upd H p (.lst (xs ++ zs)))
theorem op_catL : OpR X (binaryOp .Add) rCatL := by
  intro pins s σ H x y v u Q I rx ry h
  obtain ⟨l, b, xs, zs, rfl, rfl, hH, hB, hz, q⟩ := h
  cases rx
  cases ry
  obtain ⟨z, its, n, r, s1, e⟩ := lstR I hH
  obtain ⟨z2, its2, n2, r2, s2, e2⟩ := lstR I hB
  refine PySem.P.add_list e e2 ?_ (by rw [List.size_toArray, List.size_toArray]; omega)
  rw [show its.toArray ++ its2.toArray = (its ++ its2).toArray by simp]
  exact ⟨.ref _, _, I.lnew (t' := s.toks) (r.append r2) (by rw [List.length_append]; omega), rfl, q _ I.fresh⟩
/-- list * int -/
def rRepL : R2 := fun x y H Q => ∃ l k xs, x = .ref l ∧ y = .int k ∧ Rd H l (.lst xs) ∧ -(2 ^ 63) ≤ k ∧ k < 2 ^ 63 ∧ xs.length * k.toNat ≤ sizeLine ∧
  ∀ p, H p = none → Q (.ref p) (upd H p (.lst (List.replicate k.toNat xs).flatten))
theorem rep_fold (its : List Value) (m : Nat) : List.foldl (fun x1 x2 => x1 ++ x2) #[] (List.replicate (if its.toArray.isEmpty = true then 0 else m) its.toArray) = (List.replicate m its).flatten.toArray := by
  have g : ∀ k : Nat, List.foldl (fun x1 x2 => x1 ++ x2) #[] (List.replicate k its.toArray) = (List.replicate k its).flatten.toArray := fun k => by
    have q := foldl_rep its k []
    simpa using q
  rw [g]
  cases its with
  | nil => simp
  | cons _ _ => rw [if_neg (by simp)]
theorem op_repL : OpR X (binaryOp .Mult) rRepL := by
  intro pins s σ H x y v u Q I rx ry h
  obtain ⟨l, k, xs, e1, e2, hH, lo, hi, hz, q⟩ := h
  subst e1 e2
  cases rx
  obtain ⟨t, e3⟩ := ry
  subst e3
  obtain ⟨z, its, n, r, hl, e⟩ := lstR I hH
  have a1 : its.toArray.size * k.toNat ≤ sizeLine := by
    rw [List.size_toArray, ← hl]
    exact hz
  have a2 : (sizeLine : Nat) ≤ (2 ^ 63 - 1) / 8 := by decide
  have a3 : ¬ (!Builtin.List.listFitsIndex k) = true := by
    rw [fitsIndex_both lo hi]
    decide
  have a4 : ¬ Builtin.List.listTooLong (its.toArray.size * k.toNat) = true := by
    rw [notLongL a1]
    decide
  refine wpAny_binaryOp_repeat_ref (T := "list") (U := "int") (by decide) ⟨_, e, rfl⟩ (fun s' => typeIs_int s' k t) noFill_list_mul
    F.fills_int_mul F.slot_int_rmul repeat_list F.slot_int_index.lookup ?_
  refine call_meets F.slot_int_rmul (typeIs_int s k t) F.entry_int_rmul (F.args_int_rmul_2 _ _) (int___rmul___int_list k t l its.toArray n) ⟨e, rfl, ⟨_, e, rfl⟩, ?_⟩
  refine call_meets F.slot_list_mul ⟨_, e, rfl⟩ F.entry_list_mul (F.args_list_mul_2 _ _)
    (AutoListH.list___mul___list_int_3 l its.toArray n k t a3 (by omega) a4) ⟨e, ?_⟩
  rw [rep_fold]
  refine ⟨.ref _, _, I.lnew (t' := s.toks) (r.rep k.toNat) ?_, rfl, q _ I.fresh⟩
  rw [PyProof.Rows.lm_len_rep_flat, Nat.mul_comm]
  exact hz
end

section
variable {c : Ct} {X : Cx}
theorem lineOk_le {n : Nat} (h : lineOk n = true) : n ≤ sizeLine := yes_iff.mp h
theorem Reps.rep {c : Ct} {F : Hp} {ds : List D} {vs : List V} (h : Reps c F ds vs) : ∀ k : Nat, Reps c F (List.replicate k ds).flatten (List.replicate k vs).flatten
  | 0 => .nil
  | k + 1 => by
    rw [List.replicate_succ, List.replicate_succ, List.flatten_cons, List.flatten_cons]
    exact h.append (Reps.rep h k)
theorem Reps.nil_iff {c : Ct} {F : Hp} {ds : List D} {vs : List V} (h : Reps c F ds vs) : vs = [] ↔ ds = [] := by
  cases h with
  | nil => simp
  | cons _ _ => simp
abbrev rAddA (K : Frag) : R2 := fun x y H Q => rI0 (fun i j => .int (i + j)) x y H Q ∨ ((∃ i j, x = .str i ∧ y = .str j ∧ i.length + j.length ≤ sizeLine ∧ Q (.str (i ++ j)) H) ∨ (rCatL x y H Q ∨ rCatA K x y H Q))
theorem o_add : OpR X (binaryOp .Add) (rAddA X.K) := OpR.or op_add (OpR.or op_add_str (OpR.or op_catL op_catA))
theorem D_add : OpD c (rAddA c.K) fAdd := by
  intro F H d1 d2 x y res Q e h1 h2 hf
  cases d1 with
  | int i =>
    cases d2 with
    | int j =>
      cases hf
      exact ⟨sv, fun k => .inl ⟨i, j, h1.int, h2.int, k.here e (.int _)⟩⟩
    | _ => cases hf
  | str i =>
    cases d2 with
    | str j =>
      simp only [fAdd] at hf
      split at hf
      · rename_i hl
        cases hf
        exact ⟨sv, fun k => .inr (.inl ⟨i, j, h1.str, h2.str, lineOk_le hl, k.here e (.str _)⟩)⟩
      · cases hf
    | _ => cases hf
  | list xs =>
    cases d2 with
    | list ys =>
      simp only [fAdd] at hf
      split at hf
      · rename_i hl
        cases hf
        obtain ⟨a, vs, e1, r1, q1⟩ := h1.list e
        obtain ⟨b, ws, e2, r2, q2⟩ := h2.list e
        refine ⟨sf, fun k => .inr (.inr (.inl ⟨a, b, vs, ws, e1, e2, r1, r2, ?_, fun p hp => k.lst e (q1.append q2) hp⟩))⟩
        rw [q1.length, q2.length]; exact lineOk_le hl
      · cases hf
    | _ => cases hf
  | tuple xs =>
    cases d2 with
    | tuple ys =>
      simp only [fAdd] at hf
      split at hf
      · rename_i hl
        cases hf
        obtain ⟨a, vs, e1, r1, q1, t1⟩ := h1.tuple e
        obtain ⟨b, ws, e2, r2, q2, t2⟩ := h2.tuple e
        refine ⟨sv, fun k => .inr (.inr (.inr ⟨a, b, vs, ws, e1, e2, r1, r2, ?_, fun z => ?_, fun _ z => ?_, fun _ _ p hp => k.tup e (q1.append q2) hp⟩))⟩
        · rw [q1.length, q2.length]; exact lineOk_le hl
        · have z' := q1.nil_iff.mp z
          subst z'
          exact k.here e (.tup t2 q2)
        · have z' := q2.nil_iff.mp z
          subst z'
          rw [List.append_nil] at k
          exact k.here e (.tup t1 q1)
      · cases hf
    | _ => cases hf
  | _ => cases hf
theorem D_sub : OpD c (rI0 fun i j => .int (i - j)) fSub := by
  intro F H d1 d2 x y res Q e h1 h2 hf
  cases d1 <;> cases d2 <;> cases hf
  exact ⟨sv, fun k => ⟨_, _, h1.int, h2.int, k.here e (.int _)⟩⟩
abbrev rMulA (K : Frag) : R2 := fun x y H Q => rI CMul (fun i j => .int (i * j)) x y H Q ∨ (rI CMulW (fun i j => .int (i * j)) x y H Q ∨ (rRepL x y H Q ∨ rRepT K x y H Q))
theorem o_mul : OpR X (binaryOp .Mult) (rMulA X.K) := OpR.or op_mul (OpR.or op_mulW (OpR.or op_repL op_repT))
theorem D_mul : OpD c (rMulA c.K) fMul := by
  intro F H d1 d2 x y res Q e h1 h2 hf
  cases d1 with
  | int i =>
    cases d2 with
    | int j =>
      simp only [fMul] at hf
      split at hf
      · rename_i hm
        cases hf
        refine ⟨sv, fun k => ?_⟩
        rcases yes_iff.mp hm with hm | hm | hm
        · exact .inl ⟨i, j, h1.int, h2.int, .inl hm, k.here e (.int _)⟩
        · exact .inl ⟨i, j, h1.int, h2.int, .inr hm, k.here e (.int _)⟩
        · exact .inr (.inl ⟨i, j, h1.int, h2.int, hm, k.here e (.int _)⟩)
      · cases hf
    | _ => cases hf
  | list xs =>
    cases d2 with
    | int j =>
      simp only [fMul] at hf
      split at hf
      · rename_i hm
        cases hf
        rw [Bool.and_eq_true] at hm
        have hk := yes_iff.mp hm.1
        obtain ⟨a, vs, e1, r1, q1⟩ := h1.list e
        refine ⟨sf, fun k => .inr (.inr (.inl ⟨a, j, vs, e1, h2.int, r1, hk.1, hk.2, ?_, fun p hp => k.lst e (q1.rep _) hp⟩))⟩
        rw [q1.length]; exact lineOk_le hm.2
      · cases hf
    | _ => cases hf
  | tuple xs =>
    cases d2 with
    | int j =>
      simp only [fMul] at hf
      split at hf
      · rename_i hm
        cases hf
        simp only [Bool.and_eq_true, decide_eq_true_eq] at hm
        obtain ⟨a, vs, e1, r1, q1, _⟩ := h1.tuple e
        refine ⟨sv, fun k => .inr (.inr (.inr ⟨a, j, vs, e1, h2.int, r1, ?_, hm.1.1.2, hm.1.2, ?_, fun p hp => k.tup e (q1.rep _) hp⟩))⟩
        · exact fun z => hm.1.1.1 (q1.nil_iff.mp z)
        · rw [q1.length]; exact hm.2
      · cases hf
    | _ => cases hf
  | _ => cases hf
abbrev rDivA : R2 := fun x y H Q => rI CDivW (fun i j => .int (i / j)) x y H Q ∨ rI CDivN (fun i j => .int (i.fdiv j)) x y H Q
theorem o_div : OpR X (binaryOp .FloorDiv) rDivA := OpR.or op_fdivW op_fdivN
theorem D_div : OpD c rDivA fDiv := by
  intro F H d1 d2 x y res Q e h1 h2 hf
  cases d1 <;> cases d2 <;> first | cases hf | skip
  simp only [fDiv] at hf
  split at hf
  · rename_i hm
    cases hf
    exact ⟨sv, fun k => .inl ⟨_, _, h1.int, h2.int, yes_iff.mp hm, k.here e (.int _)⟩⟩
  · split at hf
    · rename_i _ hm
      cases hf
      exact ⟨sv, fun k => .inr ⟨_, _, h1.int, h2.int, yes_iff.mp hm, k.here e (.int _)⟩⟩
    · cases hf
abbrev rModA : R2 := fun x y H Q => rI (fun _ j => 0 < j) (fun i j => .int (i % j)) x y H Q ∨ rI (fun _ j => j ≠ 0) (fun i j => .int (i.fmod j)) x y H Q
theorem o_mod : OpR X (binaryOp .Mod) rModA := OpR.or op_mod op_modN
theorem D_mod : OpD c rModA fMod := by
  intro F H d1 d2 x y res Q e h1 h2 hf
  cases d1 <;> cases d2 <;> first | cases hf | skip
  simp only [fMod] at hf
  split at hf
  · rename_i hm
    cases hf
    exact ⟨sv, fun k => .inl ⟨_, _, h1.int, h2.int, hm, k.here e (.int _)⟩⟩
  · split at hf
    · rename_i _ hm
      cases hf
      exact ⟨sv, fun k => .inr ⟨_, _, h1.int, h2.int, hm, k.here e (.int _)⟩⟩
    · cases hf
theorem D_pow : OpD c (rI CPow fun i j => .int (i ^ j.toNat)) fPow := by
  intro F H d1 d2 x y res Q e h1 h2 hf
  cases d1 <;> cases d2 <;> first | cases hf | skip
  simp only [fPow] at hf
  split at hf
  · rename_i hm
    cases hf
    exact ⟨sv, fun k => ⟨_, _, h1.int, h2.int, yes_iff.mp hm, k.here e (.int _)⟩⟩
  · cases hf
theorem D_shl : OpD c (rI CPow fun i j => .int (i * 2 ^ j.toNat)) fShl := by
  intro F H d1 d2 x y res Q e h1 h2 hf
  cases d1 <;> cases d2 <;> first | cases hf | skip
  simp only [fShl] at hf
  split at hf
  · rename_i hm
    cases hf
    exact ⟨sv, fun k => ⟨_, _, h1.int, h2.int, yes_iff.mp hm, k.here e (.int _)⟩⟩
  · cases hf
theorem D_shr : OpD c (rI (fun _ j => 0 ≤ j) fun i j => .int (i / 2 ^ j.toNat)) fShr := by
  intro F H d1 d2 x y res Q e h1 h2 hf
  cases d1 <;> cases d2 <;> first | cases hf | skip
  simp only [fShr] at hf
  split at hf
  · rename_i hm
    cases hf
    exact ⟨sv, fun k => ⟨_, _, h1.int, h2.int, hm, k.here e (.int _)⟩⟩
  · cases hf
theorem D_xor : OpD c (rI0 fun i j => .int (Builtin.bitXor i j)) fXor := by
  intro F H d1 d2 x y res Q e h1 h2 hf
  cases d1 <;> cases d2 <;> cases hf
  exact ⟨sv, fun k => ⟨_, _, h1.int, h2.int, k.here e (.int _)⟩⟩
theorem D_band : OpD c (rI0 fun i j => .int (Builtin.bitAnd i j)) fAnd := by
  intro F H d1 d2 x y res Q e h1 h2 hf
  cases d1 <;> cases d2 <;> cases hf
  exact ⟨sv, fun k => ⟨_, _, h1.int, h2.int, k.here e (.int _)⟩⟩
end
end Pd
end
section
set_option Elab.async false
set_option linter.all false
set_option maxRecDepth 100000
set_option maxHeartbeats 4000000
namespace Pd
open PySem L2

/-! ### comparisons -/
def fLt : D → D → Option Bool
  | .int i, .int j => some (decide (i < j))
  | .str a, .str b => some (decide (a.cps.toList < b.cps.toList))
  | _, _ => none
def fLe : D → D → Option Bool
  | .int i, .int j => some (decide (i ≤ j))
  | .str a, .str b => some (!decide (b.cps.toList < a.cps.toList))
  | _, _ => none
def fGt : D → D → Option Bool
  | .int i, .int j => some (decide (j < i))
  | .str a, .str b => some (decide (b.cps.toList < a.cps.toList))
  | _, _ => none
def fGe : D → D → Option Bool
  | .int i, .int j => some (decide (j ≤ i))
  | .str a, .str b => some (!decide (a.cps.toList < b.cps.toList))
  | _, _ => none
def fEq (a b : D) : Option Bool := if fit 60 a && fit 60 b then some (PyData.eqv a b) else none
def fNe (a b : D) : Option Bool := if fit 60 a && fit 60 b then some (!PyData.eqv a b) else none
def isNone : D → Bool
  | .none => true
  | _ => false
def fIsN (a b : D) : Option Bool := match b with
  | .none => some (isNone a)
  | .bool k => match a with
    | .bool j => some (j == k)
    | _ => none
  | _ => none
def fNotN (a b : D) : Option Bool := (fIsN a b).map (!·)
section
variable {X : Cx}
def rEqP (K : Frag) : R2 := fun x y H Q => ∃ d e, Dp K H x d ∧ Dp K H y e ∧ d.plain = true ∧ e.plain = true ∧ d.depth ≤ 60 ∧ Q (.bl (PyData.eqv d e)) H
def rNeP (K : Frag) : R2 := fun x y H Q => ∃ d e, Dp K H x d ∧ Dp K H y e ∧ d.plain = true ∧ e.plain = true ∧ d.depth ≤ 60 ∧ Q (.bl (!PyData.eqv d e)) H
theorem op_eqP (hu : X.A.units + 64 < cLine) : OpR X (compareOp .Eq) (rEqP X.K) := by
  intro pins s σ H x y v u Q I rx ry h
  obtain ⟨d, e, hd, he, pd, pe, dd, q⟩ := h
  obtain ⟨as, r1⟩ := hd.reads I d x v rx
  obtain ⟨bs, r2⟩ := he.reads I e y u ry
  have m : min d.depth e.depth ≤ d.depth := Nat.min_le_left _ _
  exact SeqAt.eq_plain r1 r2 pd pe (by omega) ⟨.bl _, H, I, rfl, q⟩
theorem op_neP (hu : X.A.units + 64 < cLine) : OpR X (compareOp .NotEq) (rNeP X.K) := by
  intro pins s σ H x y v u Q I rx ry h
  obtain ⟨d, e, hd, he, pd, pe, dd, q⟩ := h
  obtain ⟨as, r1⟩ := hd.reads I d x v rx
  obtain ⟨bs, r2⟩ := he.reads I e y u ry
  have m : min d.depth e.depth ≤ d.depth := Nat.min_le_left _ _
  exact SeqAt.ne_plain r1 r2 pd pe (by omega) ⟨.bl _, H, I, rfl, q⟩
/-- x in c, c a list or a tuple -/
def rInP (K : Frag) : R2 := fun x y H Q => ∃ d ds, (Dp K H y (.list ds) ∨ Dp K H y (.tuple ds)) ∧ Dp K H x d ∧ d.plain = true ∧ d.depth ≤ 60 ∧ PyData.plainAll ds = true ∧ Q (.bl (ds.any fun z => PyData.eqv z d)) H
def rNotInP (K : Frag) : R2 := fun x y H Q => ∃ d ds, (Dp K H y (.list ds) ∨ Dp K H y (.tuple ds)) ∧ Dp K H x d ∧ d.plain = true ∧ d.depth ≤ 60 ∧ PyData.plainAll ds = true ∧ Q (.bl (!ds.any fun z => PyData.eqv z d)) H
theorem op_inP (hu : X.A.units + 64 < cLine) : OpR X (compareOp .In) (rInP X.K) := by
  intro pins s σ H x y v u Q I rx ry h
  obtain ⟨d, ds, hc, hd, pd, dd, ps, q⟩ := h
  obtain ⟨as, r1⟩ := hd.reads I d x v rx
  have m : min (PyData.depthAll ds) d.depth ≤ d.depth := Nat.min_le_right _ _
  rcases hc with hc | hc
  · obtain ⟨bs, r2⟩ := hc.reads I _ y u ry
    exact SeqAt.in_list_data r2 r1 ps pd (by omega) ⟨.bl _, H, I, rfl, q⟩
  · obtain ⟨bs, r2⟩ := hc.reads I _ y u ry
    exact SeqAt.in_tuple_data r2 r1 ps pd (by omega) ⟨.bl _, H, I, rfl, q⟩
theorem op_notInP (hu : X.A.units + 64 < cLine) : OpR X (compareOp .NotIn) (rNotInP X.K) := by
  intro pins s σ H x y v u Q I rx ry h
  obtain ⟨d, ds, hc, hd, pd, dd, ps, q⟩ := h
  obtain ⟨as, r1⟩ := hd.reads I d x v rx
  have m : min (PyData.depthAll ds) d.depth ≤ d.depth := Nat.min_le_right _ _
  rcases hc with hc | hc
  · obtain ⟨bs, r2⟩ := hc.reads I _ y u ry
    exact SeqAt.notIn_list_data r2 r1 ps pd (by omega) ⟨.bl _, H, I, rfl, q⟩
  · obtain ⟨bs, r2⟩ := hc.reads I _ y u ry
    exact SeqAt.notIn_tuple_data r2 r1 ps pd (by omega) ⟨.bl _, H, I, rfl, q⟩
end
section
variable {c : Ct} {X : Cx}
/-- an order of ints and texts -/
abbrev rOrd (p : Int → Int → Bool) (q : List Nat → List Nat → Bool) : R2 := fun x y H Q => rI0 (fun i j => .bl (p i j)) x y H Q ∨ ∃ i j, x = .str i ∧ y = .str j ∧ Q (.bl (q i.cps.toList j.cps.toList)) H
theorem D_ord {p : Int → Int → Bool} {q : List Nat → List Nat → Bool} {f : D → D → Option Bool} (hi : ∀ i j, f (.int i) (.int j) = some (p i j)) (hs : ∀ a b, f (.str a) (.str b) = some (q a.cps.toList b.cps.toList))
    (hn : ∀ a b, (∀ i j, ¬ (a = .int i ∧ b = .int j)) → (∀ i j, ¬ (a = .str i ∧ b = .str j)) → f a b = none) : OpD c (rOrd p q) (boolRes f) := by
  intro F H d1 d2 x y res Q e h1 h2 hf
  have no : (∀ i j, ¬ (d1 = .int i ∧ d2 = .int j)) → (∀ i j, ¬ (d1 = .str i ∧ d2 = .str j)) → False := fun a b => by
    simp only [boolRes, hn d1 d2 a b] at hf
    cases hf
  cases d1 with
  | int i =>
    cases d2 with
    | int j =>
      simp only [boolRes, hi] at hf
      cases hf
      exact ⟨sv, fun k => .inl ⟨i, j, h1.int, h2.int, k.here e (.bl _)⟩⟩
    | _ => exact (no (by intro _ _ z; cases z.2) (by intro _ _ z; cases z.1)).elim
  | str i =>
    cases d2 with
    | str j =>
      simp only [boolRes, hs] at hf
      cases hf
      exact ⟨sv, fun k => .inr ⟨i, j, h1.str, h2.str, k.here e (.bl _)⟩⟩
    | _ => exact (no (by intro _ _ z; cases z.1) (by intro _ _ z; cases z.2)).elim
  | _ => exact (no (by intro _ _ z; cases z.1) (by intro _ _ z; cases z.1)).elim
theorem D_lt : OpD c (rOrd (fun i j => decide (i < j)) (fun a b => decide (a < b))) (boolRes fLt) := D_ord (fun _ _ => rfl) (fun _ _ => rfl) fun a b h1 h2 => by
  cases a <;> cases b <;> first | rfl | exact absurd ⟨rfl, rfl⟩ (h1 _ _) | exact absurd ⟨rfl, rfl⟩ (h2 _ _)
theorem D_le : OpD c (rOrd (fun i j => decide (i ≤ j)) (fun a b => !decide (b < a))) (boolRes fLe) := D_ord (fun _ _ => rfl) (fun _ _ => rfl) fun a b h1 h2 => by
  cases a <;> cases b <;> first | rfl | exact absurd ⟨rfl, rfl⟩ (h1 _ _) | exact absurd ⟨rfl, rfl⟩ (h2 _ _)
theorem D_gt : OpD c (rOrd (fun i j => decide (j < i)) (fun a b => decide (b < a))) (boolRes fGt) := D_ord (fun _ _ => rfl) (fun _ _ => rfl) fun a b h1 h2 => by
  cases a <;> cases b <;> first | rfl | exact absurd ⟨rfl, rfl⟩ (h1 _ _) | exact absurd ⟨rfl, rfl⟩ (h2 _ _)
theorem D_ge : OpD c (rOrd (fun i j => decide (j ≤ i)) (fun a b => !decide (a < b))) (boolRes fGe) := D_ord (fun _ _ => rfl) (fun _ _ => rfl) fun a b h1 h2 => by
  cases a <;> cases b <;> first | rfl | exact absurd ⟨rfl, rfl⟩ (h1 _ _) | exact absurd ⟨rfl, rfl⟩ (h2 _ _)
theorem o_lt : OpR X (compareOp .Lt) (rOrd (fun i j => decide (i < j)) (fun a b => decide (a < b))) := OpR.or op_lt op_lt_str
theorem o_gt : OpR X (compareOp .Gt) (rOrd (fun i j => decide (j < i)) (fun a b => decide (b < a))) := OpR.or op_gt op_gt_str
theorem o_le : OpR X (compareOp .LtE) (rOrd (fun i j => decide (i ≤ j)) (fun a b => !decide (b < a))) := OpR.or op_le op_le_str
theorem o_ge : OpR X (compareOp .GtE) (rOrd (fun i j => decide (j ≤ i)) (fun a b => !decide (a < b))) := OpR.or op_ge op_ge_str
end
end Pd
end
section
set_option Elab.async false
set_option linter.all false
set_option maxRecDepth 100000
set_option maxHeartbeats 4000000
namespace Pd
open PySem L2

/-! ### dicts as data -/
def toK : D → Option Key
  | .int i => some (.inl i)
  | .str s => some (.inr s)
  | _ => none
def toKs : List D → Option (List Key)
  | [] => some []
  | d :: ds => match toK d, toKs ds with
    | some k, some ks => some (k :: ks)
    | _, _ => none
def toT : D → Option (List Key)
  | .tuple ds => toKs ds
  | _ => none
/-- a key of that kind of dict -/
def keyOk (t : Bool) (k : D) : Bool := if t then (toT k).isSome else (toK k).isSome
def dLook (kvs : List (D × D)) (k : D) : Option D := (kvs.find? fun kv => PyData.eqv kv.1 k).map (·.2)
def dPut (kvs : List (D × D)) (k v : D) : List (D × D) := if (kvs.any fun kv => PyData.eqv kv.1 k) = true then kvs.map (fun kv => if PyData.eqv kv.1 k then (kv.1, v) else kv) else kvs ++ [(k, v)]
def dDrop (kvs : List (D × D)) (k : D) : List (D × D) := kvs.filter fun kv => !PyData.eqv kv.1 k
theorem toK_kD {d : D} {k : Key} (h : toK d = some k) : d = kD k := by
  cases d <;> cases h <;> rfl
theorem toKs_kD : ∀ {ds : List D} {ks : List Key}, toKs ds = some ks → ds = ks.map kD
  | [], _, h => by cases h; rfl
  | d :: ds, ks, h => by
    simp only [toKs] at h
    split at h
    · rename_i k ks' h1 h2
      cases h
      rw [List.map_cons, ← toK_kD h1, ← toKs_kD h2]
    · cases h
theorem toT_kD {d : D} {k : List Key} (h : toT d = some k) : d = tkD k := by
  cases d <;> first | (cases h; done) | skip
  unfold tkD
  rw [toKs_kD h]
theorem eqv_kD (a b : Key) : PyData.eqv (kD a) (kD b) = decide (a = b) := by
  cases a with
  | inl i =>
    cases b with
    | inl j => rw [key_ll]; simp [kD, PyData.eqv]
    | inr y => rw [key_lr]; simp [kD, PyData.eqv]
  | inr x =>
    cases b with
    | inl j => rw [key_rl]; simp [kD, PyData.eqv]
    | inr y =>
      rw [key_rr]
      simp only [kD, PyData.eqv]
      by_cases e : x = y
      · subst e; simp
      · rw [decide_eq_false e]; exact beq_eq_false_iff_ne.mpr e
theorem eqv_tkD (a b : List Key) : PyData.eqv (tkD a) (tkD b) = decide (a = b) := by
  have g : ∀ a b : List Key, PyData.eqvAll (a.map kD) (b.map kD) = decide (a = b) := by
    intro a
    induction a with
    | nil => intro b; cases b <;> simp [PyData.eqvAll]
    | cons x r ih =>
      intro b
      cases b with
      | nil => simp [PyData.eqvAll]
      | cons y q =>
        rw [List.map_cons, List.map_cons, PyData.eqvAll, ih, eqv_kD]
        by_cases e : x = y
        · subst e; simp
        · simp [e]
  unfold tkD
  rw [PyData.eqv, g]
section
variable {c : Ct} {F H : Hp}
inductive ORep (c : Ct) (F : Hp) : Option D → Option V → Prop
  | none : ORep c F none none
  | some {d : D} {v : V} : Rep c F d v → ORep c F (some d) (some v)
theorem RepK.look (k : Key) : ∀ {kvs : List (D × D)} {ws : List (Key × V)}, RepK c F kvs ws → ORep c F (dLook kvs (kD k)) (valV ws k)
  | _, _, .nil => .none
  | _, _, .cons (k := j) h r => by
    by_cases e : j = k
    · rw [valV_pos (p := (_, _)) e, dLook, List.find?_cons]
      simp only [eqv_kD, decide_eq_true e]
      exact .some h
    · rw [valV_neg (p := (_, _)) e, dLook, List.find?_cons]
      simp only [eqv_kD, decide_eq_false e]
      exact RepK.look k r
theorem RepT.look (k : List Key) : ∀ {kvs : List (D × D)} {ws : List (List Key × V)}, RepT c F kvs ws → ORep c F (dLook kvs (tkD k)) (valV ws k)
  | _, _, .nil => .none
  | _, _, .cons (k := j) h r => by
    by_cases e : j = k
    · rw [valV_pos (p := (_, _)) e, dLook, List.find?_cons]
      simp only [eqv_tkD, decide_eq_true e]
      exact .some h
    · rw [valV_neg (p := (_, _)) e, dLook, List.find?_cons]
      simp only [eqv_tkD, decide_eq_false e]
      exact RepT.look k r
theorem RepK.any (k : Key) : ∀ {kvs : List (D × D)} {ws : List (Key × V)}, RepK c F kvs ws → (kvs.any fun kv => PyData.eqv kv.1 (kD k)) = ws.any fun kv => decide (kv.1 = k)
  | _, _, .nil => rfl
  | _, _, .cons h r => by rw [List.any_cons, List.any_cons, RepK.any k r, eqv_kD]
theorem RepT.any (k : List Key) : ∀ {kvs : List (D × D)} {ws : List (List Key × V)}, RepT c F kvs ws → (kvs.any fun kv => PyData.eqv kv.1 (tkD k)) = ws.any fun kv => decide (kv.1 = k)
  | _, _, .nil => rfl
  | _, _, .cons h r => by rw [List.any_cons, List.any_cons, RepT.any k r, eqv_tkD]
theorem RepK.app : ∀ {kvs es : List (D × D)} {ws us : List (Key × V)}, RepK c F kvs ws → RepK c F es us → RepK c F (kvs ++ es) (ws ++ us)
  | _, _, _, _, .nil, s => s
  | _, _, _, _, .cons h r, s => .cons h (RepK.app r s)
theorem RepT.app : ∀ {kvs es : List (D × D)} {ws us : List (List Key × V)}, RepT c F kvs ws → RepT c F es us → RepT c F (kvs ++ es) (ws ++ us)
  | _, _, _, _, .nil, s => s
  | _, _, _, _, .cons h r, s => .cons h (RepT.app r s)
theorem RepK.put {k : Key} {d : D} {v : V} (h : Rep c F d v) {kvs : List (D × D)} {ws : List (Key × V)} (r : RepK c F kvs ws) : RepK c F (dPut kvs (kD k) d) (putK ws k v) := by
  have m : ∀ {kvs : List (D × D)} {ws : List (Key × V)}, RepK c F kvs ws → RepK c F (kvs.map fun kv => if PyData.eqv kv.1 (kD k) then (kv.1, d) else kv) (ws.map fun kv => if kv.1 = k then (kv.1, v) else kv) := by
    intro kvs
    induction kvs with
    | nil => intro ws r; cases r; exact .nil
    | cons x kvs ih =>
      intro ws r
      cases r with
      | @cons j e y _ _ h1 r1 =>
        rw [List.map_cons, List.map_cons, eqv_kD]
        by_cases q : j = k
        · rw [decide_eq_true q, if_pos rfl, if_pos q]; exact .cons h (ih r1)
        · rw [decide_eq_false q, if_neg Bool.false_ne_true, if_neg q]; exact .cons h1 (ih r1)
  unfold dPut putK
  rw [r.any k]
  split
  · exact m r
  · exact r.app (.cons h .nil)
theorem RepT.put {k : List Key} {d : D} {v : V} (h : Rep c F d v) {kvs : List (D × D)} {ws : List (List Key × V)} (r : RepT c F kvs ws) : RepT c F (dPut kvs (tkD k) d) (putK ws k v) := by
  have m : ∀ {kvs : List (D × D)} {ws : List (List Key × V)}, RepT c F kvs ws → RepT c F (kvs.map fun kv => if PyData.eqv kv.1 (tkD k) then (kv.1, d) else kv) (ws.map fun kv => if kv.1 = k then (kv.1, v) else kv) := by
    intro kvs
    induction kvs with
    | nil => intro ws r; cases r; exact .nil
    | cons x kvs ih =>
      intro ws r
      cases r with
      | @cons j e y _ _ h1 r1 =>
        rw [List.map_cons, List.map_cons, eqv_tkD]
        by_cases q : j = k
        · rw [decide_eq_true q, if_pos rfl, if_pos q]; exact .cons h (ih r1)
        · rw [decide_eq_false q, if_neg Bool.false_ne_true, if_neg q]; exact .cons h1 (ih r1)
  unfold dPut putK
  rw [r.any k]
  split
  · exact m r
  · exact r.app (.cons h .nil)
theorem RepK.drop (k : Key) : ∀ {kvs : List (D × D)} {ws : List (Key × V)}, RepK c F kvs ws → RepK c F (dDrop kvs (kD k)) (dropK ws k)
  | _, _, .nil => .nil
  | _, _, .cons (k := j) h r => by
    have ih := RepK.drop k r
    unfold dDrop dropK at ih ⊢
    rw [List.filter_cons, List.filter_cons, eqv_kD]
    by_cases q : j = k
    · rw [decide_eq_true q, if_neg (by simp), if_neg (by simp [q])]; exact ih
    · rw [decide_eq_false q, if_pos (by simp), if_pos (by simp [q])]; exact .cons h ih
theorem RepK.length : ∀ {kvs : List (D × D)} {ws : List (Key × V)}, RepK c F kvs ws → ws.length = kvs.length
  | _, _, .nil => rfl
  | _, _, .cons _ r => by rw [List.length_cons, List.length_cons, RepK.length r]
theorem RepT.length : ∀ {kvs : List (D × D)} {ws : List (List Key × V)}, RepT c F kvs ws → ws.length = kvs.length
  | _, _, .nil => rfl
  | _, _, .cons _ r => by rw [List.length_cons, List.length_cons, RepT.length r]
theorem Reps.keys : ∀ {ks : List Key} {vs : List V}, Reps c F (ks.map kD) vs → vs = ks.map kV
  | [], _, h => by cases h; rfl
  | k :: r, _, h => by
    cases h with
    | cons h1 h2 =>
      rw [Reps.keys h2]
      cases k with
      | inl i => cases (show Rep c F (.int i) _ from h1); rfl
      | inr i => cases (show Rep c F (.str i) _ from h1); rfl
theorem RdX.key {k : Key} {x : V} (h : RdX c F H (kD k) x) : x = kV k := by
  cases k with
  | inl i => exact RdX.int h
  | inr i => exact RdX.str h
/-- a tuple that is a key, where no written tuple is a value -/
theorem RdX.tkey (e : Ex F H) (hc : c.kt = false) {k : List Key} {x : V} (h : RdX c F H (tkD k) x) : ∃ b, x = .ref b ∧ H b = some (.tup (k.map kV)) := by
  cases h with
  | rep q =>
    cases q with
    | tup h r =>
      rcases h with h | h
      · rw [Reps.keys r] at h
        exact ⟨_, rfl, e.tp _ _ trivial h⟩
      · rw [hc] at h; cases h.1
  | own o => cases o
theorem RdX.dict {t : Bool} {kvs : List (D × D)} {x : V} (e : Ex F H) (h : RdX c F H (dct t kvs) x) :
    (∃ a ws, t = false ∧ x = .ref a ∧ Rd H a (.dK ws) ∧ RepK c F kvs ws) ∨ ∃ a ws, t = true ∧ x = .ref a ∧ Rd H a (.dT ws) ∧ RepT c F kvs ws := by
  cases h with
  | rep q =>
    cases q with
    | dK h r => exact .inl ⟨_, _, rfl, rfl, e.rd _ _ h, r⟩
    | dT h r => exact .inr ⟨_, _, rfl, rfl, e.rd _ _ h, r⟩
  | own o =>
    cases o with
    | dK h r => exact .inl ⟨_, _, rfl, rfl, .inl h, r⟩
    | dT h r => exact .inr ⟨_, _, rfl, rfl, .inl h, r⟩
/-- what the dict holds at the key -/
theorem dget_ok {t : Bool} {kvs : List (D × D)} {k : D} {x y : V} (e : Ex F H) (hc : t = true → c.kt = false) (hk : keyOk t k = true) (h : RdX c F H (dct t kvs) x) (hy : RdX c F H k y) : ∃ a o, x = .ref a ∧ DGet H a y o ∧ ORep c F (dLook kvs k) o := by
  rcases h.dict e with ⟨a, ws, rfl, rfl, r, q⟩ | ⟨a, ws, rfl, rfl, r, q⟩
  · obtain ⟨k', e'⟩ := Option.isSome_iff_exists.mp (show (toK k).isSome = true from hk)
    have := toK_kD e'
    subst this
    exact ⟨a, valV ws k', rfl, .inl ⟨ws, k', r, hy.key, rfl⟩, q.look k'⟩
  · obtain ⟨k', e'⟩ := Option.isSome_iff_exists.mp (show (toT k).isSome = true from hk)
    have := toT_kD e'
    subst this
    obtain ⟨b, rfl, hb⟩ := hy.tkey e (hc rfl)
    exact ⟨a, valV ws k', rfl, .inr ⟨ws, k', b, r, rfl, hb, rfl⟩, q.look k'⟩
end

/-- a list that is only read -/
def scrOf : D → Option (List D)
  | .dict [(.bool false, .list xs)] => some xs
  | _ => none
theorem scrOf_eq {d : D} {xs : List D} (h : scrOf d = some xs) : d = scrD xs := by
  unfold scrOf at h
  split at h
  · cases h; rfl
  · cases h
/-- a dict's kind and pairs -/
def asDct : D → Option (Bool × List (D × D))
  | .dict ((.none, .bool u) :: kvs) => some (u, kvs)
  | _ => none
theorem asDct_eq {d : D} {u : Bool} {kvs : List (D × D)} (h : asDct d = some (u, kvs)) : d = dct u kvs := by
  unfold asDct at h
  split at h
  · cases h; rfl
  · cases h
theorem asDct_dct (u : Bool) (kvs : List (D × D)) : asDct (dct u kvs) = some (u, kvs) := rfl

/-! ### in -/
def fIn (t : Bool) (a b : D) : Option Bool := match b with
  | .list xs => if fit 60 a && fitAll 60 xs then some (xs.any fun y => PyData.eqv y a) else none
  | .tuple xs => if fit 60 a && fitAll 60 xs then some (xs.any fun y => PyData.eqv y a) else none
  | .str t => match a with
    | .str s => some (!(Builtin.Str.occurrences t s 0 t.length 1).isEmpty)
    | _ => none
  | b => match asDct b with
    | some (u, kvs) => if keyOk u a && (t || !u) then some (dLook kvs a).isSome else none
    | none => none
def fNotIn (t : Bool) (a b : D) : Option Bool := (fIn t a b).map (!·)
section
variable {X : Cx} {c : Ct}
def rInDct (n : Bool) : R2 := fun x y H Q => ∃ a o, y = .ref a ∧ DGet H a x o ∧ Q (.bl (n ^^ o.isSome)) H
theorem op_inDct (hu : X.A.units + 1 < cLine) : OpR X (compareOp .In) (rInDct false) := by
  intro pins s σ H x y v u Q I rx ry h
  obtain ⟨a, o, rfl, g, q⟩ := h
  cases ry
  exact d_in hu I g rx fun s' I' => ⟨.bl _, H, I', rfl, by simpa using q⟩
theorem op_notInDct (hu : X.A.units + 1 < cLine) : OpR X (compareOp .NotIn) (rInDct true) := by
  intro pins s σ H x y v u Q I rx ry h
  obtain ⟨a, o, rfl, g, q⟩ := h
  cases ry
  exact d_notIn hu I g rx fun s' I' => ⟨.bl _, H, I', rfl, by simpa using q⟩
theorem ORep.some_eq {F : Hp} {a : Option D} {b : Option V} (h : ORep c F a b) : b.isSome = a.isSome := by cases h <;> rfl
abbrev rInA (K : Frag) : R2 := fun x y H Q => rInP K x y H Q ∨ ((∃ i j, x = .str i ∧ y = .str j ∧ Q (.bl (!(Builtin.Str.occurrences j i 0 j.length 1).isEmpty)) H) ∨ rInDct false x y H Q)
abbrev rNotInA (K : Frag) : R2 := fun x y H Q => rNotInP K x y H Q ∨ ((∃ i j, x = .str i ∧ y = .str j ∧ Q (.bl (!(!(Builtin.Str.occurrences j i 0 j.length 1).isEmpty))) H) ∨ rInDct true x y H Q)
theorem o_in (hu : X.A.units + 64 < cLine) : OpR X (compareOp .In) (rInA X.K) := OpR.or (op_inP hu) (OpR.or op_in_str (op_inDct (by omega)))
theorem o_notIn (hu : X.A.units + 64 < cLine) : OpR X (compareOp .NotIn) (rNotInA X.K) := OpR.or (op_notInP hu) (OpR.or op_notin_str (op_notInDct (by omega)))
/-- what «in» is worth, by the cases -/
theorem fIn_cases {t : Bool} (hc : t = true → c.kt = false) {F H : Hp} {d1 d2 : D} {x y : V} {b : Bool} (e : Ex F H) (h1 : RdX c F H d1 x) (h2 : RdX c F H d2 y) (hf : fIn t d1 d2 = some b) :
    (∃ ds, (Dp c.K H y (.list ds) ∨ Dp c.K H y (.tuple ds)) ∧ Dp c.K H x d1 ∧ d1.plain = true ∧ d1.depth ≤ 60 ∧ PyData.plainAll ds = true ∧ b = ds.any fun z => PyData.eqv z d1) ∨
    (∃ i j, x = .str i ∧ y = .str j ∧ b = !(Builtin.Str.occurrences j i 0 j.length 1).isEmpty) ∨ ∃ a o, y = .ref a ∧ DGet H a x o ∧ b = o.isSome := by
  have dc : ∀ {u kvs}, asDct d2 = some (u, kvs) → (if keyOk u d1 && (t || !u) then some (dLook kvs d1).isSome else none) = some b → ∃ a o, y = .ref a ∧ DGet H a x o ∧ b = o.isSome := by
    clear hf
    intro u kvs ha hf
    have := asDct_eq ha
    subst this
    split at hf
    · rename_i hm
      cases hf
      simp only [Bool.and_eq_true] at hm
      obtain ⟨a, o, e1, g, r⟩ := dget_ok e (fun z => by subst z; exact hc (by simpa using hm.2)) hm.1 h2 h1
      exact ⟨a, o, e1, g, r.some_eq.symm⟩
    · cases hf
  cases d2 with
  | list xs =>
    simp only [fIn] at hf
    split at hf
    · rename_i hm
      cases hf
      simp only [Bool.and_eq_true] at hm
      have q1 := fit_ok _ _ hm.1
      have q2 := fitAll_ok _ _ hm.2
      exact .inl ⟨xs, .inl (h2.dp e (by simp only [PyData.plain]; exact q2.1)), h1.dp e q1.1, q1.1, q1.2, q2.1, rfl⟩
    · cases hf
  | tuple xs =>
    simp only [fIn] at hf
    split at hf
    · rename_i hm
      cases hf
      simp only [Bool.and_eq_true] at hm
      have q1 := fit_ok _ _ hm.1
      have q2 := fitAll_ok _ _ hm.2
      exact .inl ⟨xs, .inr (h2.dp e (by simp only [PyData.plain]; exact q2.1)), h1.dp e q1.1, q1.1, q1.2, q2.1, rfl⟩
    · cases hf
  | str t =>
    cases d1 with
    | str s => cases hf; exact .inr (.inl ⟨s, t, h1.str, h2.str, rfl⟩)
    | _ => cases hf
  | dict ps =>
    simp only [fIn] at hf
    split at hf
    · rename_i u kvs ha
      exact .inr (.inr (dc ha hf))
    · cases hf
  | _ => cases hf
theorem D_in {t : Bool} (hc : t = true → c.kt = false) : OpD c (rInA c.K) (boolRes (fIn t)) := by
  intro F H d1 d2 x y res Q e h1 h2 hf
  unfold boolRes at hf
  cases hb : fIn t d1 d2 with
  | none => rw [hb] at hf; cases hf
  | some b =>
    rw [hb] at hf
    cases hf
    refine ⟨sv, fun k => ?_⟩
    rcases fIn_cases hc e h1 h2 hb with ⟨ds, a1, a2, a3, a4, a5, rfl⟩ | ⟨i, j, rfl, rfl, rfl⟩ | ⟨a, o, rfl, g, rfl⟩
    · exact .inl ⟨d1, ds, a1, a2, a3, a4, a5, k.here e (.bl _)⟩
    · exact .inr (.inl ⟨i, j, rfl, rfl, k.here e (.bl _)⟩)
    · exact .inr (.inr ⟨a, o, rfl, g, by simpa using k.here e (.bl _)⟩)
theorem D_notIn {t : Bool} (hc : t = true → c.kt = false) : OpD c (rNotInA c.K) (boolRes (fNotIn t)) := by
  intro F H d1 d2 x y res Q e h1 h2 hf
  unfold boolRes fNotIn at hf
  cases hb : fIn t d1 d2 with
  | none => rw [hb] at hf; cases hf
  | some b =>
    rw [hb] at hf
    cases hf
    refine ⟨sv, fun k => ?_⟩
    rcases fIn_cases hc e h1 h2 hb with ⟨ds, a1, a2, a3, a4, a5, rfl⟩ | ⟨i, j, rfl, rfl, rfl⟩ | ⟨a, o, rfl, g, rfl⟩
    · exact .inl ⟨d1, ds, a1, a2, a3, a4, a5, k.here e (.bl _)⟩
    · exact .inr (.inl ⟨i, j, rfl, rfl, k.here e (.bl _)⟩)
    · exact .inr (.inr ⟨a, o, rfl, g, by simpa using k.here e (.bl _)⟩)
theorem D_eq : OpD c (rEqP c.K) (boolRes fEq) := by
  intro F H d1 d2 x y res Q e h1 h2 hf
  simp only [boolRes, fEq] at hf
  split at hf
  · rename_i hm
    cases hf
    simp only [Bool.and_eq_true] at hm
    have q1 := fit_ok _ _ hm.1
    have q2 := fit_ok _ _ hm.2
    exact ⟨sv, fun k => ⟨d1, d2, h1.dp e q1.1, h2.dp e q2.1, q1.1, q2.1, q1.2, k.here e (.bl _)⟩⟩
  · cases hf
theorem D_ne : OpD c (rNeP c.K) (boolRes fNe) := by
  intro F H d1 d2 x y res Q e h1 h2 hf
  simp only [boolRes, fNe] at hf
  split at hf
  · rename_i hm
    cases hf
    simp only [Bool.and_eq_true] at hm
    have q1 := fit_ok _ _ hm.1
    have q2 := fit_ok _ _ hm.2
    exact ⟨sv, fun k => ⟨d1, d2, h1.dp e q1.1, h2.dp e q2.1, q1.1, q2.1, q1.2, k.here e (.bl _)⟩⟩
  · cases hf
/-- is -/
abbrev rIsA : R2 := fun x y H Q => (y = .non ∧ Q (.bl (decide (x = .non))) H) ∨ rIsB x y H Q
abbrev rIsNotA : R2 := fun x y H Q => (y = .non ∧ Q (.bl (!decide (x = .non))) H) ∨ rNotB x y H Q
theorem o_is : OpR X (compareOp .Is) rIsA := OpR.or op_isN op_isBl
theorem o_isNot : OpR X (compareOp .IsNot) rIsNotA := OpR.or op_notN op_notBl
theorem RdX.non_iff {F H : Hp} {d : D} {x : V} (h : RdX c F H d x) : decide (x = .non) = isNone d := by
  cases h with
  | rep q => cases q <;> rfl
  | own o => cases o <;> rfl
theorem D_is : OpD c rIsA (boolRes fIsN) := by
  intro F H d1 d2 x y res Q e h1 h2 hf
  cases d2 with
  | none =>
    simp only [boolRes, fIsN, Option.map_some] at hf
    cases hf
    refine ⟨sv, fun k => .inl ⟨h2.non, ?_⟩⟩
    rw [h1.non_iff]
    exact k.here e (.bl _)
  | bool b =>
    cases d1 <;> simp only [boolRes, fIsN, Option.map_some] at hf <;> cases hf
    refine ⟨sv, fun k => .inr ⟨_, b, h1.bool, h2.bool, ?_⟩⟩
    rw [← Bool.beq_eq_decide_eq]
    exact k.here e (.bl _)
  | _ => cases hf
theorem D_isNot : OpD c rIsNotA (boolRes fNotN) := by
  intro F H d1 d2 x y res Q e h1 h2 hf
  cases d2 with
  | none =>
    simp only [boolRes, fNotN, fIsN, Option.map_some] at hf
    cases hf
    refine ⟨sv, fun k => .inl ⟨h2.non, ?_⟩⟩
    rw [h1.non_iff]
    exact k.here e (.bl _)
  | bool b =>
    cases d1 <;> simp only [boolRes, fNotN, fIsN, Option.map_some] at hf <;> cases hf
    refine ⟨sv, fun k => .inr ⟨_, b, h1.bool, h2.bool, ?_⟩⟩
    rw [← Bool.beq_eq_decide_eq]
    exact k.here e (.bl _)
  | _ => cases hf
end
end Pd
end
section
set_option Elab.async false
set_option linter.all false
set_option maxRecDepth 100000
set_option maxHeartbeats 4000000
namespace Pd
open PySem L2

section
variable {X : Cx} {B : Bs} {W : WX} {x y z : Expr} {a b d : Ev} {pos p2 : Pos}
/-! ### a op b op c -/
def eChain (f g : D → D → Option Bool) (a b d : Ev) : EvT := fun ρ => (a ρ).bdT fun r1 ρ1 => (b ρ1).bdT fun r2 ρ2 => match look ρ2 r1, look ρ2 r2 with
  | some d1, some d2 => match f d1 d2 with
    | some true => (d ρ2).bdT fun r3 ρ3 => match look ρ3 r2, look ρ3 r3 with
      | some e2, some d3 => match g e2 d3 with
        | some k => .ok k ρ3
        | none => .bad
      | _, _ => .bad
    | some false => .ok false ρ2
    | none => .bad
  | _, _ => .bad
theorem chain_ok {r r' : R2} {f g : D → D → Option Bool} (hf : OpD B.c r (boolRes f)) (hg : OpD B.c r' (boolRes g)) (σ : L2.St) (H : Hp) (Q : VK) {R : Bool → Hp → Prop}
    (hR : ∀ k H', R k H' → Q (.bl k) H') (h : tT B W (eChain f g a b d) σ H R) : tChain r r' (tE B W a) (tE B W b) (tE B W d) σ H Q := by
  obtain ⟨F, ρ, S, h⟩ := h
  refine bdT_ok S h fun r1 ρ1 F1 H1 x e1 S1 R1 h1 => ?_
  obtain ⟨F1', e1', S1', R1'⟩ := R1.hold S1
  refine bdT_ok S1' (h1.mono e1') fun r2 ρ2 F2 H2 y e2 S2 R2 h2 => ?_
  obtain ⟨F2', e2', S2', R2'⟩ := R2.hold S2
  have R1'' : ResOk B F2' σ H2 ρ2 r1.hold x := R1'.move hold_ne (e2.trans e2')
  have h2 := h2.mono e2'
  cases l1 : look ρ2 r1 with
  | none => simp only [l1] at h2; exact h2.elim
  | some d1 =>
    cases l2 : look ρ2 r2 with
    | none => simp only [l1, l2] at h2; exact h2.elim
    | some d2 =>
      simp only [l1, l2] at h2
      cases l3 : f d1 d2 with
      | none => rw [l3] at h2; exact h2.elim
      | some k =>
        rw [l3] at h2
        obtain ⟨_, kk⟩ := hf F2' H2 d1 d2 x y (.v (.bool k)) _ S2'.ex (R1''.rd S2' (by rw [look_hold]; exact l1)) (R2'.rd S2' (by rw [look_hold]; exact l2)) (by unfold boolRes; rw [l3]; rfl)
        refine kk fun F3 H3 w g3 q => ?_
        cases q
        refine ⟨k, rfl, ?_⟩
        have S3 := S2'.grow g3
        have h3 := h2.mono g3.f
        have R2'' : ResOk B F3 σ H3 ρ2 r2.hold y := R2'.move hold_ne g3.f
        cases k with
        | false => rw [if_neg Bool.false_ne_true]; exact hR _ _ (h3 F3 H3 (Ex.refl _) S3)
        | true =>
          rw [if_pos rfl]
          refine bdT_ok S3 h3 fun r3 ρ4 F4 H4 w e4 S4 R4 h4 => ?_
          have R2x : ResOk B F4 σ H4 ρ4 r2.hold y := R2''.move hold_ne e4
          cases m1 : look ρ4 r2 with
          | none => simp only [m1] at h4; exact h4.elim
          | some e2 =>
            cases m2 : look ρ4 r3 with
            | none => simp only [m1, m2] at h4; exact h4.elim
            | some d3 =>
              simp only [m1, m2] at h4
              cases m3 : g e2 d3 with
              | none => rw [m3] at h4; exact h4.elim
              | some j =>
                rw [m3] at h4
                obtain ⟨_, kk⟩ := hg F4 H4 e2 d3 y w (.v (.bool j)) Q S4.ex (R2x.rd S4 (by rw [look_hold]; exact m1)) (R4.rd S4 m2) (by unfold boolRes; rw [m3]; rfl)
                refine kk fun F5 H5 w g5 q => ?_
                cases q
                exact hR _ _ (h4 F5 H5 g5.f (S4.grow g5))
theorem t_chain {op op' : CmpOp} {r r' : R2} {f g : D → D → Option Bool} (ho : OpR X (compareOp op) r) (ho' : OpR X (compareOp op') r') (hf : OpD B.c r (boolRes f)) (hg : OpD B.c r' (boolRes g))
    (ha : PED X B W x a) (hb : PED X B W y b) (hd : PED X B W z d) (hm : lastMarks [op, op'] [y, z] = false) : PTD X B W (.Compare x [op, op'] [y, z] pos) (eChain f g a b d) :=
  pt_wk (pt_chain ho ho' ha hb hd hm) fun σ H Q h => chain_ok hf hg σ H _ (fun k H' q => ⟨k, rfl, q⟩) h
theorem d_chain {op op' : CmpOp} {r r' : R2} {f g : D → D → Option Bool} (ho : OpR X (compareOp op) r) (ho' : OpR X (compareOp op') r') (hf : OpD B.c r (boolRes f)) (hg : OpD B.c r' (boolRes g))
    (ha : PED X B W x a) (hb : PED X B W y b) (hd : PED X B W z d) (hm : lastMarks [op, op'] [y, z] = false) : PED X B W (.Compare x [op, op'] [y, z] pos) (eT (eChain f g a b d)) :=
  pe_wk (pe_chain ho ho' ha hb hd hm) fun σ H Q ⟨F, ρ, S, h⟩ => by
    refine chain_ok hf hg σ H Q (R := fun k H' => Q (.bl k) H') (fun _ _ q => q) ⟨F, ρ, S, ?_⟩
    unfold eT at h
    cases e : eChain f g a b d ρ with
    | ok k ρ' => rw [e] at h; exact fun F' H' e' S' => h F' H' _ e' S' (.bl k)
    | ex c ρ' => rw [e] at h; exact h
    | bad => rw [e] at h; exact h

/-! ### one operand -/
def e1 (f : D → Option Res) (a : Ev) : Ev := fun ρ => (a ρ).bd fun r1 ρ1 => match look ρ1 r1 with
  | some d1 => retOp ρ1 (f d1)
  | _ => .bad
def OpD1 (c : Ct) (r : V → Hp → VK → Prop) (f : D → Option Res) : Prop := ∀ F H d1 x res Q, Ex F H → RdX c F H d1 x → f d1 = some res → (∀ i, res ≠ .s i) ∧ (NewOk c F H Q res → r x H Q)
theorem op1 {r : V → Hp → VK → Prop} {f : D → Option Res} (hf : OpD1 B.c r f) (σ : L2.St) (H : Hp) (Q : VK) (h : tE B W (e1 f a) σ H Q) : tUn r (tE B W a) σ H Q := by
  obtain ⟨F, ρ, S, h⟩ := h
  refine bd_ok S h fun r1 ρ1 F1 H1 x e1 S1 R1 h1 => ?_
  cases l1 : look ρ1 r1 with
  | none => simp only [l1] at h1; exact h1.elim
  | some d1 =>
    simp only [l1] at h1
    cases l3 : f d1 with
    | none => rw [l3] at h1; exact h1.elim
    | some res =>
      rw [l3] at h1
      obtain ⟨ns, k⟩ := hf F1 H1 d1 x res Q S1.ex (R1.rd S1 l1) l3
      exact k (newOk S1 h1 ns)
def fNeg : D → Option Res
  | .int i => some (.v (.int (-i)))
  | _ => none
theorem D_neg {c : Ct} : OpD1 c (rU fun i => .int (-i)) fNeg := by
  intro F H d1 x res Q e h1 hf
  cases d1 <;> cases hf
  exact ⟨sv, fun k => ⟨_, h1.int, k.here e (.int _)⟩⟩
theorem d_neg (ha : PED X B W x a) : PED X B W (.UnaryOp .USub x pos) (e1 fNeg a) := pe_wk (pe_un un_neg ha) (op1 D_neg)

/-! ### a[i] -/
noncomputable def fIx (t : Bool) (a b : D) : Option Res := match a with
  | .list xs => match b with
    | .int i => (atI xs i).map .v
    | _ => none
  | .tuple xs => match b with
    | .int i => (atI xs i).map .v
    | _ => none
  | .str s => match b with
    | .int i => if lineOk s.length then (atI s.cps.toList i).map fun c => .v (.str ⟨#[c]⟩) else none
    | _ => none
  | a => match scrOf a with
    | some xs => match b with
      | .int i => (atI xs i).map .v
      | _ => none
    | none => match asDct a with
      | some (u, kvs) => if keyOk u b && (t || !u) then (dLook kvs b).map .v else none
      | none => none
def rIxDct : R2 := fun x y H Q => ∃ a v, x = .ref a ∧ DGet H a y (some v) ∧ Q v H
open PySem.Spec PyProof.Rows in
theorem ix_dct (hu : X.A.units + 1 < cLine) : IxR X rIxDct := by
  intro value slice pins s σ H x y v u Q I rx ry h hs
  obtain ⟨p, r, rfl, g, q⟩ := h
  obtain rfl : v = Value.ref p := rx
  exact tail_any (dict_typeIs I g) slot_dict_getitem.lookup (d_getItem hu I g ry fun w' s' I' rw' => ⟨r, H, I', rw', q⟩) hs
abbrev rIxA (K : Frag) : R2 := fun x y H Q => rIx K x y H Q ∨ rIxDct x y H Q
theorem ix_all (hu : X.A.units + 64 < cLine) : IxR X (rIxA X.K) := ix_seq.or (ix_dct (by omega))
theorem atI_reps {c : Ct} {F : Hp} {ds : List D} {vs : List V} {i : Int} {d : D} (r : Reps c F ds vs) (h : atI ds i = some d) : ∃ v, atI vs i = some v ∧ Rep c F d v := by
  unfold atI at h ⊢
  rw [r.length]
  cases e : ixN ds.length i with
  | none => rw [e] at h; cases h
  | some j =>
    rw [e] at h
    exact r.getD h
theorem D_ix {c : Ct} {t : Bool} (hc : t = true → c.kt = false) : OpD c (rIxA c.K) (fIx t) := by
  intro F H d1 d2 x y res Q e h1 h2 hf
  cases d1 with
  | list xs =>
    cases d2 with
    | int i =>
      simp only [fIx] at hf
      cases hh : atI xs i with
      | none => rw [hh] at hf; cases hf
      | some d =>
        rw [hh] at hf
        cases hf
        obtain ⟨a, vs, rfl, r, q⟩ := h1.list e
        obtain ⟨v, hv, rv⟩ := atI_reps q hh
        exact ⟨sv, fun k => .inl (.inl ⟨a, vs, i, v, rfl, h2.int, .inl r, hv, k.here e rv⟩)⟩
    | _ => cases hf
  | tuple xs =>
    cases d2 with
    | int i =>
      simp only [fIx] at hf
      cases hh : atI xs i with
      | none => rw [hh] at hf; cases hf
      | some d =>
        rw [hh] at hf
        cases hf
        obtain ⟨a, vs, rfl, r, q, _⟩ := h1.tuple e
        obtain ⟨v, hv, rv⟩ := atI_reps q hh
        exact ⟨sv, fun k => .inl (.inr (.inl ⟨a, vs, i, v, rfl, h2.int, r, hv, k.here e rv⟩))⟩
    | _ => cases hf
  | str s =>
    cases d2 with
    | int i =>
      simp only [fIx] at hf
      split at hf
      · rename_i hl
        cases hh : atI s.cps.toList i with
        | none => rw [hh] at hf; cases hf
        | some d =>
          rw [hh] at hf
          cases hf
          exact ⟨sv, fun k => .inl (.inr (.inr ⟨s, i, d, h1.str, h2.int, lineOk_le hl, hh, k.here e (.str _)⟩))⟩
      · cases hf
    | _ => cases hf
  | dict ps =>
    simp only [fIx] at hf
    split at hf
    · rename_i xs ha
      rw [scrOf_eq ha] at h1
      cases d2 with
      | int i =>
        simp only at hf
        cases hh : atI xs i with
        | none => rw [hh] at hf; cases hf
        | some d =>
          rw [hh] at hf
          cases hf
          obtain ⟨a, vs, rfl, r, q⟩ := RdX.scr e h1
          obtain ⟨v, hv, rv⟩ := atI_reps q hh
          exact ⟨sv, fun k => .inl (.inl ⟨a, vs, i, v, rfl, h2.int, r, hv, k.here e rv⟩)⟩
      | _ => cases hf
    split at hf
    · rename_i u kvs ha
      have := asDct_eq ha
      rw [this] at h1
      split at hf
      · rename_i hm
        simp only [Bool.and_eq_true] at hm
        obtain ⟨p, o, e1, g, r⟩ := dget_ok e (fun z => by subst z; exact hc (by simpa using hm.2)) hm.1 h1 h2
        cases hh : dLook kvs d2 with
        | none => rw [hh] at hf; cases hf
        | some d =>
          rw [hh] at hf r
          cases hf
          cases r with
          | some rv => exact ⟨sv, fun k => .inr ⟨p, _, e1, g, k.here e rv⟩⟩
      · cases hf
    · cases hf
  | _ => cases hf
theorem d_ix {t : Bool} (hK : B.c.K = X.K) (hc : t = true → B.c.kt = false) (hu : X.A.units + 64 < cLine) (ha : PED X B W x a) (hb : PED X B W y b) (hs : PlainIx y) : PED X B W (.Subscript x y pos) (eOp (fIx t) a b) :=
  pe_wk (pe_ix (ix_all hu) ha hb hs) (by rw [← hK]; exact op2 (D_ix hc))

/-! ### a[lo:hi] -/
def cutD (xs : List D) (lo hi : Option Int) : List D := (xs.drop (HT.sIx xs.length 0 lo)).take (HT.sIx xs.length xs.length hi - HT.sIx xs.length 0 lo)
theorem Reps.cut {c : Ct} {F : Hp} {ds : List D} {vs : List V} (r : Reps c F ds vs) (lo hi : Option Int) : Reps c F (cutD ds lo hi) (cutV vs lo hi) := by
  unfold cutD cutV
  rw [r.length]
  exact (r.drop _).take _
noncomputable def fSl (a : D) (lo hi : Option Int) : Option Res := match a with
  | .list xs => some (.f (.list (cutD xs lo hi)))
  | .tuple xs => some (.v (.tuple (cutD xs lo hi)))
  | .str s => if lineOk s.length then some (.v (.str (cutS s lo hi))) else none
  | a => (scrOf a).map fun xs => .f (.list (cutD xs lo hi))
/-- a part of a slice: left out, or an int -/
inductive OutP where
  | ok (o : Option Int) (ρ : Env) | ex (c : String) (ρ : Env) | bad
abbrev EvP := Env → OutP
def pNo : EvP := fun ρ => .ok none ρ
def pAt (a : Ev) : EvP := fun ρ => match a ρ with
  | .ok r ρ1 => match look ρ1 r with
    | some (.int i) => .ok (some i) ρ1
    | _ => .bad
  | .ex c ρ1 => .ex c ρ1
  | .bad => .bad
def OutP.bd : OutP → (Option Int → Env → Out) → Out
  | .ok r ρ, k => k r ρ
  | .ex c ρ, _ => .ex c ρ
  | .bad, _ => .bad
def tP (B : Bs) (W : WX) (e : EvP) : TO := fun σ H Q => ∃ F ρ, St B F σ H ρ ∧ match e ρ with
  | .ok o ρ' => ∀ F' H', Ex F F' → St B F' σ H' ρ' → Q o H'
  | .ex c ρ' => ∀ F' H', Ex F F' → St B F' σ H' ρ' → W (.ref (B.ec c)) none σ H'
  | .bad => False
theorem po_wk {e : Option Expr} {t t' : TO} (h : PO X e t) (k : ∀ σ H Q, t' σ H Q → t σ H Q) : PO X e t' := ⟨fun pins s σ H Q I q => h.run pins s σ H Q I (k σ H Q q)⟩
theorem p_no : PO X none (tP B W pNo) := po_wk po_none fun σ H Q ⟨F, ρ, S, h⟩ => h F H (Ex.refl F) S
theorem p_at (ha : PED X B W x a) : PO X (some x) (tP B W (pAt a)) := po_wk (po_some ha) fun σ H Q ⟨F, ρ, S, h⟩ => by
  refine ⟨F, ρ, S, ?_⟩
  unfold pAt at h
  cases e : a ρ with
  | ok r ρ1 =>
    rw [e] at h
    intro F1 H1 x e1 S1 R1
    cases l : look ρ1 r with
    | none => simp only [l] at h
    | some d =>
      simp only [l] at h
      cases d with
      | int i => exact ⟨i, (R1.rd S1 l).int, h F1 H1 e1 S1⟩
      | _ => exact h.elim
  | ex c ρ1 => rw [e] at h; exact h
  | bad => rw [e] at h; exact h
theorem pbd_ok {B : Bs} {W : WX} {F H : Hp} {σ : L2.St} {ρ : Env} {Q : VK} {a : EvP} {k : Option Int → Env → Out} {R : Option Int → Hp → Prop} (S : St B F σ H ρ) (h : OutOk B W F σ Q ((a ρ).bd k))
    (step : ∀ r ρ1 F1 H1, Ex F F1 → St B F1 σ H1 ρ1 → OutOk B W F1 σ Q (k r ρ1) → R r H1) : tP B W a σ H R := by
  refine ⟨F, ρ, S, ?_⟩
  cases e : a ρ with
  | ok r ρ1 => rw [e] at h; exact fun F1 H1 e1 S1 => step r ρ1 F1 H1 e1 S1 (OutOk.mono e1 h)
  | ex c ρ1 => rw [e] at h; exact h
  | bad => rw [e] at h; exact h
noncomputable def eSl (a : Ev) (lo hi : EvP) : Ev := fun ρ => (a ρ).bd fun r ρ1 => (lo ρ1).bd fun l ρ2 => (hi ρ2).bd fun u ρ3 => match look ρ3 r with
  | some d => retOp ρ3 (fSl d l u)
  | none => .bad
abbrev rSlAll (K : Frag) : V → Option Int → Option Int → Hp → VK → Prop := fun x lo hi H Q => rSlL K x lo hi H Q ∨ (rSlA K x lo hi H Q ∨ rSlS x lo hi H Q)
theorem sl_all : SlR X (rSlAll X.K) := SlR.or sl_list (SlR.or sl_tupA sl_str)
theorem D_sl {c : Ct} {F H : Hp} {d : D} {x : V} {lo hi : Option Int} {res : Res} {Q : VK} (e : Ex F H) (h1 : RdX c F H d x) (hf : fSl d lo hi = some res) : (∀ i, res ≠ .s i) ∧ (NewOk c F H Q res → rSlAll c.K x lo hi H Q) := by
  cases d with
  | list xs =>
    cases hf
    obtain ⟨a, vs, rfl, r, q⟩ := h1.list e
    exact ⟨sf, fun k => .inl ⟨a, vs, rfl, .inl r, fun p hp => k.lst e (q.cut lo hi) hp⟩⟩
  | tuple xs =>
    cases hf
    obtain ⟨a, vs, rfl, r, q, t⟩ := h1.tuple e
    refine ⟨sv, fun k => .inr (.inl ⟨a, vs, rfl, r, fun hw => ?_, fun _ p hp => k.tup e (q.cut lo hi) hp⟩)⟩
    have e2 : cutD xs lo hi = xs := by
      unfold cutD
      rw [q.length] at hw
      rw [hw.1, hw.2, List.drop_zero, Nat.sub_zero, List.take_length]
    rw [e2] at k
    exact k.here e (.tup t q)
  | str s =>
    simp only [fSl] at hf
    split at hf
    · rename_i hl
      cases hf
      exact ⟨sv, fun k => .inr (.inr ⟨s, h1.str, lineOk_le hl, k.here e (.str _)⟩)⟩
    · cases hf
  | dict ps =>
    simp only [fSl, Option.map_eq_some_iff] at hf
    obtain ⟨xs, ha, rfl⟩ := hf
    rw [scrOf_eq ha] at h1
    obtain ⟨a, vs, rfl, r, q⟩ := RdX.scr e h1
    exact ⟨sf, fun k => .inl ⟨a, vs, rfl, r, fun p hp => k.lst e (q.cut lo hi) hp⟩⟩
  | none => simp [fSl, scrOf] at hf
  | bool _ => simp [fSl, scrOf] at hf
  | int _ => simp [fSl, scrOf] at hf
theorem d_sl {lo hi : Option Expr} {l u : EvP} (hK : B.c.K = X.K) (ha : PED X B W x a) (hl : PO X lo (tP B W l)) (hu : PO X hi (tP B W u)) : PED X B W (.Subscript x (.Slice lo hi none p2) pos) (eSl a l u) :=
  pe_wk (pe_slice sl_all ha hl hu) fun σ H Q ⟨F, ρ, S, h⟩ => by
    refine bd_ok S h fun r1 ρ1 F1 H1 x e1 S1 R1 h1 => ?_
    obtain ⟨F1', e1', S1', R1'⟩ := R1.hold S1
    refine pbd_ok S1' (h1.mono e1') fun o ρ2 F2 H2 e2 S2 h2 => pbd_ok S2 h2 fun o' ρ3 F3 H3 e3 S3 h3 => ?_
    have R : ResOk B F3 σ H3 ρ3 r1.hold x := R1'.move hold_ne (e2.trans e3)
    cases l1 : look ρ3 r1 with
    | none => simp only [l1] at h3; exact h3.elim
    | some d =>
      simp only [l1] at h3
      cases l3 : fSl d o o' with
      | none => rw [l3] at h3; exact h3.elim
      | some res =>
        rw [l3] at h3
        obtain ⟨ns, k⟩ := D_sl (Q := Q) S3.ex (R.rd S3 (by rw [look_hold]; exact l1)) l3
        rw [← hK]
        exact k (newOk S3 h3 ns)
/-- a[::-1] of a list -/
def fRev : D → Option Res
  | .list xs => some (.f (.list xs.reverse))
  | _ => none
theorem d_rev {k : Nat} {q1 q2 q3 : Pos} (ha : PED X B W x a) : PED X B W (.Subscript x (.Slice none none (some (.UnaryOp .USub (.Constant (.int 1) k q1) q2)) q3) pos) (e1 fRev a) :=
  pe_wk (pe_revL ha) fun σ H Q h => op1 (r := fun x H1 Q => ∃ a xs, x = .ref a ∧ SqL X.K H1 a xs ∧ ∀ p, H1 p = none → Q (.ref p) (upd H1 p (.lst xs.reverse))) (by
    intro F H d1 x res Q e h1 hf
    cases d1 <;> cases hf
    obtain ⟨a, vs, rfl, r, q⟩ := h1.list e
    exact ⟨sf, fun k => ⟨a, vs, rfl, .inl r, fun p hp => k.lst e q.rev hp⟩⟩) σ H Q h
end
end Pd
end
section
set_option Elab.async false
set_option linter.all false
set_option maxRecDepth 100000
set_option maxHeartbeats 4000000
namespace Pd
open PySem L2

/-! ### arguments -/
def aNil : EvA := fun ρ => .ok [] ρ
def aCons (a : Ev) (t : EvA) : EvA := fun ρ => (a ρ).bdA fun r1 ρ1 => (t ρ1).bd fun rs ρ2 => .ok (r1.hold :: rs) ρ2
def looks (ρ : Env) : List Res → Option (List D)
  | [] => some []
  | r :: rs => match look ρ r, looks ρ rs with
    | some d, some ds => some (d :: ds)
    | _, _ => none
/-- the own objects among them are made values -/
def frzR (ρ : Env) : Res → Option (D × Env)
  | .v d => some (d, ρ)
  | .f d => some (d, ρ)
  | .s i => match ρ[i]? with
    | some (.o d) => some (d, ρ.set i (.v d))
    | some (.v d) => some (d, ρ)
    | _ => none
def frzs (ρ : Env) : List Res → Option (List D × Env)
  | [] => some ([], ρ)
  | r :: rs => match frzR ρ r with
    | some (d, ρ1) => match frzs ρ1 rs with
      | some (ds, ρ2) => some (d :: ds, ρ2)
      | none => none
    | none => none
section
variable {B : Bs} {W : WX} {F F1 H : Hp} {σ : L2.St} {ρ : Env} {Q : VK}
theorem frzR_ok {r : Res} {x : V} {d : D} {ρ' : Env} (S : St B F σ H ρ) (R : ResOk B F σ H ρ r x) (h : frzR ρ r = some (d, ρ')) : ∃ F', Ex F F' ∧ St B F' σ H ρ' ∧ Rep B.c F' d x := by
  cases r with
  | v d' => cases h; exact ⟨F, Ex.refl F, S, R⟩
  | f d' =>
    cases h
    obtain ⟨p, rfl, hp, h0, ho, hs⟩ := R
    obtain ⟨o, e, r⟩ := ho.froze hp
    exact ⟨upd F p o, Ex.new hp, S.freezeAt hp h0 e hs, r⟩
  | s i =>
    have h1 : σ[i]? = some (some x) := R
    simp only [frzR] at h
    cases e : ρ[i]? with
    | none => rw [e] at h; cases h
    | some s =>
      have q := S.sl i s _ e h1
      rw [e] at h
      cases s with
      | u => cases h
      | e _ => cases h
      | b _ => cases h
      | v d' =>
        cases h
        obtain ⟨v, e1, e2⟩ := q
        cases e1
        exact ⟨F, Ex.refl F, S, e2⟩
      | o d' =>
        cases h
        obtain ⟨p, e1, hp, h0, ho⟩ := q
        cases e1
        obtain ⟨o, e2, r⟩ := ho.froze hp
        have S1 : St B F σ H (ρ.set i .u) := S.setSl i .u rfl fun _ _ => trivial
        have out : ∀ (j : Nat) (t : Sl), (ρ.set i .u)[j]? = some t → t.mine ≠ none → σ[j]? ≠ some (some (.ref p)) := fun j t h1' h2 h3 => by
          by_cases ij : i = j
          · subst ij
            rw [List.getElem?_set_self (List.getElem?_eq_some_iff.mp e).1] at h1'
            cases h1'
            exact h2 rfl
          · rw [List.getElem?_set_ne ij] at h1'
            exact ij (S.sep i j _ _ p e h1' (by intro z; cases z) h2 h1 h3)
        have S2 := S1.freezeAt hp h0 e2 out
        have S3 := S2.setSl i (.v d) rfl fun y hy => by
          rw [h1] at hy
          cases hy
          exact ⟨_, rfl, r⟩
        rw [List.set_set] at S3
        exact ⟨upd F p o, Ex.new hp, S3, r⟩
theorem frzs_ok : ∀ {rs : List Res} {xs : List V} {ds : List D} {F : Hp} {ρ ρ' : Env}, St B F σ H ρ → RessOk B F σ H ρ rs xs → frzs ρ rs = some (ds, ρ') → ∃ F', Ex F F' ∧ St B F' σ H ρ' ∧ Reps B.c F' ds xs
  | [], _, _, F, ρ, ρ', S, R, h => by
    cases R
    cases h
    exact ⟨F, Ex.refl F, S, .nil⟩
  | r :: rs, _, _, F, ρ, ρ', S, R, h => by
    cases R with
    | cons n R1 R2 =>
      simp only [frzs] at h
      cases e1 : frzR ρ r with
      | none => rw [e1] at h; cases h
      | some p =>
        obtain ⟨d, ρ1⟩ := p
        rw [e1] at h
        simp only at h
        cases e2 : frzs ρ1 rs with
        | none => rw [e2] at h; cases h
        | some q =>
          obtain ⟨ds, ρ2⟩ := q
          rw [e2] at h
          cases h
          obtain ⟨F1, x1, S1, q1⟩ := frzR_ok S R1 e1
          obtain ⟨F2, x2, S2, q2⟩ := frzs_ok S1 (R2.move x1) e2
          exact ⟨F2, x1.trans x2, S2, .cons (q1.ex x2) q2⟩
inductive RdXs (c : Ct) (F H : Hp) : List D → List V → Prop
  | nil : RdXs c F H [] []
  | cons {d : D} {x : V} {ds : List D} {xs : List V} : RdX c F H d x → RdXs c F H ds xs → RdXs c F H (d :: ds) (x :: xs)
theorem looks_ok (S : St B F σ H ρ) : ∀ {rs : List Res} {xs : List V} {ds : List D}, RessOk B F σ H ρ rs xs → looks ρ rs = some ds → RdXs B.c F H ds xs
  | _, _, _, .nil, h => by cases h; exact .nil
  | r :: rs, _, _, .cons n R1 R2, h => by
    simp only [looks] at h
    cases e1 : look ρ r with
    | none => simp only [e1] at h; cases h
    | some d =>
      cases e2 : looks ρ rs with
      | none => simp only [e1, e2] at h; cases h
      | some ds =>
        simp only [e1, e2] at h
        cases h
        exact .cons (R1.rd S e1) (looks_ok S R2 e2)
end
section
variable {X : Cx} {B : Bs} {W : WX} {x y z : Expr} {xs : List Expr} {a b d : Ev} {t : EvA} {pos p2 : Pos}
theorem a_nil : PAD X B W [] aNil := pa_wk pa_nil fun σ H Q ⟨F, ρ, S, h⟩ => h F H [] (Ex.refl F) S .nil
theorem a_cons (ha : PED X B W x a) (ht : PAD X B W xs t) (hs : starEach (x :: xs) X.env = (false, eval x X.env) :: starEach xs X.env := by rfl) : PAD X B W (x :: xs) (aCons a t) :=
  pa_wk (pa_cons ha ht hs) fun σ H Q ⟨F, ρ, S, h⟩ => by
    refine bdA_ok S h fun r1 ρ1 F1 H1 x e1 S1 R1 h1 => ?_
    obtain ⟨F1', e1', S1', R1'⟩ := R1.hold S1
    refine aabd_ok S1' (h1.mono e1') fun rs ρ2 F2 H2 xs e2 S2 R2 h2 => ?_
    exact h2 F2 H2 _ (Ex.refl _) S2 (.cons hold_ne (R1'.move hold_ne e2) R2)
/-- (a, b, ..) -/
noncomputable def eTup (t : EvA) : Ev := fun ρ => (t ρ).bdE fun rs ρ1 => match frzs ρ1 rs with
  | some (ds, ρ2) => if lineOk ds.length then .ok (.v (.tuple ds)) ρ2 else .bad
  | none => .bad
theorem d_tup {k : Nat} (ht : PAD X B W xs t) : PED X B W (.Tuple xs k pos) (eTup t) :=
  pe_wk (pe_tup ht) fun σ H Q ⟨F, ρ, S, h⟩ => by
    refine abd_ok S h fun rs ρ1 F1 H1 vs e1 S1 R1 h1 => ?_
    cases e : frzs ρ1 rs with
    | none => simp only [e] at h1; exact h1.elim
    | some p =>
      obtain ⟨ds, ρ2⟩ := p
      simp only [e] at h1
      split at h1
      · rename_i hl
        obtain ⟨F2, x2, S2, q2⟩ := frzs_ok S1 R1 e
        refine ⟨by rw [q2.length]; exact lineOk_le hl, fun p hp => ?_⟩
        exact (newOk S2 (h1.mono x2) sv).tup S2.ex q2 hp
      · exact h1.elim
/-- [a, b, ..] -/
noncomputable def eLst (t : EvA) : Ev := fun ρ => (t ρ).bdE fun rs ρ1 => match frzs ρ1 rs with
  | some (ds, ρ2) => if lineOk ds.length then .ok (.f (.list ds)) ρ2 else .bad
  | none => .bad
theorem d_lst (ht : PAD X B W xs t) : PED X B W (.List xs pos) (eLst t) :=
  pe_wk (pe_lst ht) fun σ H Q ⟨F, ρ, S, h⟩ => by
    refine abd_ok S h fun rs ρ1 F1 H1 vs e1 S1 R1 h1 => ?_
    cases e : frzs ρ1 rs with
    | none => simp only [e] at h1; exact h1.elim
    | some p =>
      obtain ⟨ds, ρ2⟩ := p
      simp only [e] at h1
      split at h1
      · rename_i hl
        obtain ⟨F2, x2, S2, q2⟩ := frzs_ok S1 R1 e
        refine ⟨by rw [q2.length]; exact lineOk_le hl, fun p hp => ?_⟩
        exact (newOk S2 (h1.mono x2) sf).lst S2.ex q2 hp
      · exact h1.elim

/-! ### built-ins by values -/
def eBlt (f : List D → Option Res) (t : EvA) : Ev := fun ρ => (t ρ).bdE fun rs ρ1 => match looks ρ1 rs with
  | some ds => retOp ρ1 (f ds)
  | none => .bad
def CallD (c : Ct) (r : List V → Hp → VK → Prop) (f : List D → Option Res) : Prop := ∀ F H ds xs res Q, Ex F H → RdXs c F H ds xs → f ds = some res → (∀ i, res ≠ .s i) ∧ (NewOk c F H Q res → r xs H Q)
theorem blt_ok {r : List V → Hp → VK → Prop} {f : List D → Option Res} (hf : CallD B.c r f) (σ : L2.St) (H : Hp) (Q : VK) (h : tE B W (eBlt f t) σ H Q) : tCB r (tA B W t) σ H Q := by
  obtain ⟨F, ρ, S, h⟩ := h
  refine abd_ok S h fun rs ρ1 F1 H1 vs e1 S1 R1 h1 => ?_
  cases e : looks ρ1 rs with
  | none => simp only [e] at h1; exact h1.elim
  | some ds =>
    simp only [e] at h1
    cases e3 : f ds with
    | none => rw [e3] at h1; exact h1.elim
    | some res =>
      rw [e3] at h1
      obtain ⟨ns, k⟩ := hf F1 H1 ds vs res Q S1.ex (looks_ok S1 R1 e) e3
      exact k (newOk S1 h1 ns)
theorem d_blt {id : String} {r : List V → Hp → VK → Prop} {f : List D → Option Res} {nm : Str} {p : Pos} (hc : CallR X (.builtin id) r) (hf : CallD B.c r f) (hg : Gl X nm) (hm : X.mg nm = none) (hv : bootBuiltins nm = some (.builtin id)) (ht : PAD X B W (x :: xs) t)
    (hn : nm ≠ "__name__" := by decide) (hdb : (nm == ("__debug__" : Str)) = false := by decide)
    (he : starEach (x :: xs) X.env = (false, eval x X.env) :: starEach xs X.env := by rfl) (hpl : (backTo pos (starEach xs X.env)).any (·.1) = false := by rfl) : PED X B W (.Call (.Name nm p) (x :: xs) [] pos) (eBlt f t) :=
  pe_wk (pe_callB hc hg hm hv ht hn hdb he hpl) (blt_ok hf)
theorem d_bltT {T : String} {r : List V → Hp → VK → Prop} {f : List D → Option Res} {nm : Str} {p : Pos} (hc : CallR X (.type T) r) (hf : CallD B.c r f) (hg : Gl X nm) (hm : X.mg nm = none) (hv : bootBuiltins nm = some (.type T)) (ht : PAD X B W (x :: xs) t)
    (hn : nm ≠ "__name__" := by decide) (hdb : (nm == ("__debug__" : Str)) = false := by decide)
    (he : starEach (x :: xs) X.env = (false, eval x X.env) :: starEach xs X.env := by rfl) (hpl : (backTo pos (starEach xs X.env)).any (·.1) = false := by rfl) : PED X B W (.Call (.Name nm p) (x :: xs) [] pos) (eBlt f t) :=
  pe_wk (pe_callTy hc hg hm hv ht hn hdb he hpl) (blt_ok hf)
end
end Pd
end
section
set_option Elab.async false
set_option linter.all false
set_option maxRecDepth 100000
set_option maxHeartbeats 4000000
namespace RT
open PySem PySem.Spec PyProof.Rows
section
variable {prog : Program} {w : World} {A : Around} {E : Value → Shared → Prop} {s : Shared}
/-- a new list takes what the backward iterator of a list gives -/
theorem fill_rev {it l S : Addr} {items : Array Value} {res : Value} {c₀ : Nat} {R : Result → Shared → Prop} (hh : A.handled = none) (hit : s.heap.IsRevIter it l ((items.size : Int) - 1)) (hl : s.heap.IsList l items)
    (hne : l ≠ it) (hn : items.size ≤ sizeLine) (hS : s.heap.get? S = some { cls := .type "list", data := .seq #[] c₀ }) (d1 : S ≠ it) (d2 : S ≠ l)
    (hR : ∀ (h' : Heap) (tk : Nat) (acc : Array Value) (c : Nat), (∀ b o, b ≠ it → b ≠ S → s.heap.get? b = some o → h'.get? b = some o) → h'.get? S = some { cls := .type "list", data := .seq acc c } →
      ItemsOf (fun i v => items[items.size - 1 - i]? = some v) acc items.size → R (.ok (.ret res)) { s with heap := h', toks := tk }) :
    wpAny (model prog w) A.in1 (Builtin.List.listExtendWith (.ref S) (.ref it) res)
      (fun fin s' => match fin with | .done f => R (.ok f) s' | .again c' => c'.quiet = true ∧ codeAny (model prog w) A c' R s') (fun e s' => R (.error e) s') s := by
  have W := (Walks.listRev (prog := prog) (w := w) (A := A.in1) hh it l hne items).toS
  have nm : S ∉ [it, l] := by simp only [List.mem_cons, List.not_mem_nil, or_false, not_or]; exact ⟨d1, d2⟩
  have hT : s.TypeIs (.ref it) "list_reverseiterator" := hit.typeIs
  have same : Builtin.List.listSameRef (.ref S) (.ref it) = false := by simp [Builtin.List.listSameRef, d1]
  unfold Builtin.List.listExtendWith
  refine wpAny_bind (wpAny_typeOf hT ?_)
  rw [if_neg (by rw [same]; decide)]
  refine wpAny_bind (wpAny_pyIter_revIter hit (wpAny_bind (wpAny_holding ?_)))
  unfold Builtin.List.listLengthHint
  refine wpAny_bind (wpAny_specialOf hT nolen_lri ?_)
  show wpAny _ A.in1 (specialOf (Value.ref it) (Str.ofString "__length_hint__") >>= _) _ _ s
  refine wpAny_bind (wpAny_specialOf hT hint_lri ?_)
  generalize hid : ("list_reverseiterator.__length_hint__" : String) = nm0
  wp_delta
  rw [show splitId nm0 = some ("list_reverseiterator", "__length_hint__") from by subst hid; decide +kernel]
  subst hid
  refine wpAny_bind (wpAny_isInstance (b := true) hT (by rw [isSubtype_type]; kernel_rfl) (wpAny_pure ?_))
  rw [if_neg (by decide)]
  have z : ((items.size : Nat) : Int) - 1 - ((0 : Nat) : Int) = (items.size : Int) - 1 := by omega
  refine wpAny_pure ⟨plainId_quiet F.plain_extend_loop _, ?_⟩
  refine codeAny_extend_loopS W hn _ nm _ items.size 0 _ _ _ rfl (Nat.zero_le _) ⟨Nat.zero_le _, by rw [z]; exact hit, hl⟩ hS (ItemsOf.nil _) fun s' acc c hm hS' hacc => ?_
  rw [Moved.eq_with hm]
  refine hR s'.heap s'.toks acc c (fun b o h1 h2 e => hm.heap b o (fun hmem => ?_) e) hS' hacc
  rcases List.mem_cons.mp hmem with e' | hmem
  · exact h2 e'
  · exact h1 (List.mem_singleton.mp hmem)
theorem list_init_rev {it l S : Addr} {items : Array Value} {R : Result → Shared → Prop} (hh : A.handled = none) (hit : s.heap.IsRevIter it l ((items.size : Int) - 1)) (hl : s.heap.IsList l items)
    (hne : l ≠ it) (hn : items.size ≤ sizeLine) (hS : s.heap.get? S = some { cls := .type "list", data := .seq #[] }) (d1 : S ≠ it) (d2 : S ≠ l)
    (hR : ∀ (h' : Heap) (tk : Nat) (acc : Array Value) (c : Nat), (∀ b o, b ≠ it → b ≠ S → s.heap.get? b = some o → h'.get? b = some o) → h'.get? S = some { cls := .type "list", data := .seq acc c } →
      ItemsOf (fun i v => items[items.size - 1 - i]? = some v) acc items.size → R (.ok (.ret .none)) { s with heap := h', toks := tk }) :
    wpAny (model prog w) A.in1 (Builtin.«list.__init__» ⟨[.ref S, .ref it], []⟩)
      (fun fin s' => match fin with | .done f => R (.ok f) s' | .again c' => c'.quiet = true ∧ codeAny (model prog w) A c' R s') (fun e s' => R (.error e) s') s := by
  show wpAny _ A.in1 (do
    let old ← Builtin.List.listItems (.ref S)
    Builtin.List.listUpdate (.ref S) (fun _ => #[])
    letGo old.toList.reverse
    Builtin.List.listExtendWith (.ref S) (.ref it) .none) _ _ s
  unfold Builtin.List.listItems
  refine wpAny_bind (wpAny_bind (wpAny_seqItems hS rfl (wpAny_pure ?_)))
  refine wpAny_bind (m := updateSeq S fun _ => #[]) (wpAny_updateSeq hS rfl ?_)
  have hS2 := Heap.get?_update_self (Obj.mapSeq (fun _ => (#[] : Array Value))) hS rfl
  have oth : ∀ b o, b ≠ S → s.heap.get? b = some o → (s.heap.update S (Obj.mapSeq (fun _ => (#[] : Array Value)))).get? b = some o := fun b o hb e => by
    rw [Heap.get?_update_other _ _ (Ne.symm hb)]
    exact e
  refine wpAny_bind (wpAny_letGo ?_)
  obtain ⟨oi, e1, e2⟩ := id hit
  obtain ⟨ol, f1, f2⟩ := id hl
  refine fill_rev (s := { s with heap := s.heap.update S (Obj.mapSeq (fun _ => #[])) }) hh ⟨oi, oth _ _ (Ne.symm d1) e1, e2⟩ ⟨ol, oth _ _ (Ne.symm d2) f1, f2⟩ hne hn hS2 d1 d2 fun h' tk acc c k1 k2 k3 => ?_
  exact hR h' tk acc c (fun b o h1 h2 e => k1 b o h1 h2 (oth b o h2 e)) k2 k3
theorem call_list_rev {it l : Addr} {items : Array Value} {Q : Value → Shared → Prop} (hh : A.handled = none) (hit : s.heap.IsRevIter it l ((items.size : Int) - 1)) (hl : s.heap.IsList l items) (hne : l ≠ it) (hn : items.size ≤ sizeLine)
    (hQ : ∀ (h' : Heap) (tk : Nat) (acc : Array Value) (c : Nat), (∀ b o, b ≠ it → s.heap.get? b = some o → h'.get? b = some o) → h'.get? s.heap.objs.size = some { cls := .type "list", data := .seq acc c } →
      ItemsOf (fun i v => items[items.size - 1 - i]? = some v) acc items.size → Q (.ref s.heap.objs.size) { s with heap := h', toks := tk }) :
    wpAny (model prog w) A (call (.type "list") [.ref it]) Q E s := by
  refine callType_codes (Q₁ := fun obj s₁ => obj = .ref s.heap.objs.size ∧ s₁ = { s with heap := s.heap.push { cls := .type "list", data := .seq #[] } }) F.called_list
    (F.typeCall_list_1 _) F.entry_list_init (code_list_new _ ⟨rfl, rfl⟩) fun obj s₁ h₁ => ?_
  obtain ⟨e1, e2⟩ := h₁
  subst e1 e2
  have hS : (s.heap.push { cls := .type "list", data := .seq #[] }).get? s.heap.objs.size = some { cls := .type "list", data := .seq #[] } := Heap.get?_push_size _ rfl
  obtain ⟨oi, f1, f2⟩ := id hit
  obtain ⟨ol, g1, g2⟩ := id hl
  refine ⟨⟨_, hS, rfl⟩, F.args_list_init_2 _ _, ?_⟩
  refine list_init_rev (A := A.in1) (s := { s with heap := s.heap.push { cls := .type "list", data := .seq #[] } }) hh ⟨oi, Heap.get?_push_of_some _ f1, f2⟩ ⟨ol, Heap.get?_push_of_some _ g1, g2⟩ hne hn hS
    (Nat.ne_of_gt (Heap.lt_size f1)) (Nat.ne_of_gt (Heap.lt_size g1)) fun h' tk acc c k1 k2 k3 => ⟨rfl, ?_⟩
  exact hQ h' tk acc c (fun b o hb e => k1 b o hb (Nat.ne_of_lt (Heap.lt_size e)) (Heap.get?_push_of_some _ e)) k2 k3
end
end RT
end
section
set_option Elab.async false
set_option linter.all false
set_option maxRecDepth 100000
set_option maxHeartbeats 4000000
namespace Pd
open PySem L2
section
variable {X : Cx} {B : Bs} {W : WX} {x y z : Expr} {a b d : Ev} {pos : Pos}
open PySem.Spec PyProof.Rows in
/-- list(reversed(xs)) -/
theorem pe_listRev {te : TE} {p p2 pos2 : Pos} (hc : X.calm = true) (gl : Gl X "list") (ml : X.mg "list" = none) (gr : Gl X "reversed") (mr : X.mg "reversed" = none) (he : PE X x te)
    (s1 : starEach [.Call (.Name "reversed" p2) [x] [] pos2] X.env = (false, eval (.Call (.Name "reversed" p2) [x] [] pos2) X.env) :: starEach [] X.env := by rfl)
    (s2 : starEach [x] X.env = (false, eval x X.env) :: starEach [] X.env := by rfl) :
    PE X (.Call (.Name "list" p) [.Call (.Name "reversed" p2) [x] [] pos2] [] pos)
      (fun σ H Q => te σ H fun x H1 => ∃ a xs, x = .ref a ∧ Rd H1 a (.lst xs) ∧ ∀ p, H1 p = none → Q (.ref p) (upd H1 p (.lst xs.reverse))) := by
  refine ⟨fun pins s σ H Q I h => ?_⟩
  refine Call_ (ld_blt I gl ml boot_list (PyProof.Rows.callWith_type1 ?_ s1))
  rw [s1]
  refine Calls.spliced_cons (Call_ (ld_blt I gr mr PyProof.Rows.boot_reversed (PyProof.Rows.callWith_type1 (one_arg he I h (fun u s3 x H1 I1 rx q => ?_) s2) s2)))
  obtain ⟨a, xs, e1, hq, q⟩ := q
  subst e1
  cases rx
  obtain ⟨hz, its, n, rv, hl, e⟩ := lstR I1 hq
  have isl : s3.heap.IsList a its.toArray := ⟨_, e, rfl, n, rfl⟩
  refine call_reversed_list isl ?_
  refine Calls.spliced_nil ?_
  have nea : a ≠ s3.heap.objs.size := Nat.ne_of_lt (Heap.lt_size e)
  have hz2 : its.toArray.size ≤ sizeLine := by rw [List.size_toArray, ← hl]; exact hz
  refine RT.call_list_rev (l := a) (items := its.toArray) (I1.ok.hd hc) ⟨_, Heap.get?_push_size _ rfl, rfl, rfl⟩ (isl.push _) nea hz2 fun h' tk acc c k1 k2 k3 => ?_
  have e2 : acc.toList = its.reverse := by
    obtain ⟨z1, z2⟩ := k3
    refine List.ext_getElem? fun i => ?_
    by_cases hi : i < its.length
    · have hi2 : i < acc.size := by rw [z1, List.size_toArray]; exact hi
      have y2 := z2 i acc[i] (Array.getElem?_eq_getElem hi2)
      rw [Array.getElem?_toList, Array.getElem?_eq_getElem hi2, List.getElem?_reverse hi, ← y2]
      simp
    · rw [List.getElem?_eq_none (by simp [z1]; omega), List.getElem?_eq_none (by simp; omega)]
  have I2 : L2.Inv X pins σ H1 { s3 with heap := s3.heap.push (revObj a ((its.toArray.size : Int) - 1)) } := I1.kept (t' := s3.toks) fun b o q => Heap.get?_push_of_some _ q
  have sz : (s3.heap.push (revObj a ((its.toArray.size : Int) - 1))).objs.size = s3.heap.objs.size + 1 := Heap.size_push ..
  have I3 : L2.Inv X pins σ (upd H1 (s3.heap.push (revObj a ((its.toArray.size : Int) - 1))).objs.size (.lst xs.reverse)) { s3 with heap := h', toks := tk } := by
    refine I1.laid (t' := tk) (a := (s3.heap.push (revObj a ((its.toArray.size : Int) - 1))).objs.size) (fun b o q => ?_) (by rw [sz]; exact Nat.le_succ _) ?_
    · exact k1 b o (Nat.ne_of_lt (Heap.lt_size q)) (Heap.get?_push_of_some _ q)
    · refine ⟨by rw [List.length_reverse]; exact hz, acc.toList, c, by rw [e2]; exact rv.reverse, ?_⟩
      rw [k2]
  refine ⟨.ref (s3.heap.push (revObj a ((its.toArray.size : Int) - 1))).objs.size, _, I3, rfl, q _ (I1.hok.fresh (by rw [sz]; exact Nat.le_succ _))⟩
theorem d_listRev {p p2 pos2 : Pos} (hc : X.calm = true) (gl : Gl X "list") (ml : X.mg "list" = none) (gr : Gl X "reversed") (mr : X.mg "reversed" = none) (ha : PED X B W x a)
    (s1 : starEach [.Call (.Name "reversed" p2) [x] [] pos2] X.env = (false, eval (.Call (.Name "reversed" p2) [x] [] pos2) X.env) :: starEach [] X.env := by rfl)
    (s2 : starEach [x] X.env = (false, eval x X.env) :: starEach [] X.env := by rfl) : PED X B W (.Call (.Name "list" p) [.Call (.Name "reversed" p2) [x] [] pos2] [] pos) (e1 fRev a) :=
  pe_wk (pe_listRev hc gl ml gr mr ha s1 s2) fun σ H Q h => op1 (r := fun x H1 Q => ∃ a xs, x = .ref a ∧ Rd H1 a (.lst xs) ∧ ∀ p, H1 p = none → Q (.ref p) (upd H1 p (.lst xs.reverse))) (by
    intro F H d1 x res Q e h1 hf
    cases d1 <;> cases hf
    obtain ⟨a, vs, rfl, r, q⟩ := h1.list e
    exact ⟨sf, fun k => ⟨a, vs, rfl, r, fun p hp => k.lst e q.rev hp⟩⟩) σ H Q h
end
end Pd
end
section
set_option Elab.async false
set_option linter.all false
set_option maxRecDepth 100000
set_option maxHeartbeats 4000000
namespace Pd
open PySem L2

def asInts : List D → Option (List Int)
  | [] => some []
  | .int i :: ds => (asInts ds).map (i :: ·)
  | _ :: _ => none
theorem asInts_eq : ∀ {ds : List D} {ns : List Int}, asInts ds = some ns → ds = ns.map PyData.int
  | [], _, h => by cases h; rfl
  | .int i :: ds, ns, h => by
    simp only [asInts] at h
    cases e : asInts ds with
    | none => rw [e] at h; cases h
    | some r => rw [e] at h; cases h; rw [asInts_eq e]; rfl
  | .none :: _, _, h => by cases h
  | .bool _ :: _, _, h => by cases h
  | .str _ :: _, _, h => by cases h
  | .list _ :: _, _, h => by cases h
  | .tuple _ :: _, _, h => by cases h
  | .dict _ :: _, _, h => by cases h
theorem asInts_map (ns : List Int) : asInts (ns.map PyData.int) = some ns := by
  induction ns with
  | nil => rfl
  | cons n r ih => rw [List.map_cons, asInts, ih]; rfl
/-- the least, the greatest of n :: ns -/
def leastI (n : Int) (ns : List Int) : Int := ns.foldl (fun m y => if y < m then y else m) n
def mostI (n : Int) (ns : List Int) : Int := ns.foldl (fun m y => if m < y then y else m) n
theorem leastI_mem : ∀ (ns : List Int) (n : Int), leastI n ns ∈ n :: ns
  | [], n => by simp [leastI]
  | y :: r, n => by
    have ih := leastI_mem r (if y < n then y else n)
    unfold leastI at ih ⊢
    rw [List.foldl_cons]
    rcases List.mem_cons.mp ih with e | e
    · rw [e]; split <;> simp
    · exact List.mem_cons_of_mem _ (List.mem_cons_of_mem _ e)
theorem leastI_le : ∀ (ns : List Int) (n : Int), leastI n ns ≤ n ∧ ∀ y ∈ ns, leastI n ns ≤ y
  | [], n => by simp [leastI]
  | y :: r, n => by
    have ih := leastI_le r (if y < n then y else n)
    have e : leastI n (y :: r) = leastI (if y < n then y else n) r := rfl
    rw [e]
    have a := ih.1
    refine ⟨by split at a <;> omega, fun z hz => ?_⟩
    rcases List.mem_cons.mp hz with rfl | hz
    · split at a <;> omega
    · exact ih.2 z hz
theorem mostI_mem : ∀ (ns : List Int) (n : Int), mostI n ns ∈ n :: ns
  | [], n => by simp [mostI]
  | y :: r, n => by
    have ih := mostI_mem r (if n < y then y else n)
    unfold mostI at ih ⊢
    rw [List.foldl_cons]
    rcases List.mem_cons.mp ih with e | e
    · rw [e]; split <;> simp
    · exact List.mem_cons_of_mem _ (List.mem_cons_of_mem _ e)
theorem mostI_le : ∀ (ns : List Int) (n : Int), n ≤ mostI n ns ∧ ∀ y ∈ ns, y ≤ mostI n ns
  | [], n => by simp [mostI]
  | y :: r, n => by
    have ih := mostI_le r (if n < y then y else n)
    have e : mostI n (y :: r) = mostI (if n < y then y else n) r := rfl
    rw [e]
    have a := ih.1
    refine ⟨by split at a <;> omega, fun z hz => ?_⟩
    rcases List.mem_cons.mp hz with rfl | hz
    · split at a <;> omega
    · exact ih.2 z hz
/-- ints in order -/
def sortI (ns : List Int) : List Int := ns.mergeSort fun a b => decide (a ≤ b)
theorem sortI_perm (ns : List Int) : (sortI ns).Perm ns := List.mergeSort_perm _ _
theorem sortI_ord (ns : List Int) : (sortI ns).Pairwise (· ≤ ·) := by
  have h := List.pairwise_mergeSort (le := fun a b : Int => decide (a ≤ b)) (fun a b c h1 h2 => by simp at *; omega) (fun a b => by simp; omega) ns
  exact h.imp fun h => by simpa using h
theorem ord_same : ∀ {xs ys : List Int}, xs.Perm ys → xs.Pairwise (· ≤ ·) → ys.Pairwise (· ≤ ·) → xs = ys := by
  intro xs ys h h1 h2
  exact h.eq_of_pairwise (fun a b _ _ h3 h4 => by omega) h1 h2

/-! ### what they are worth -/
noncomputable def fLen : List D → Option Res
  | [.list xs] => some (.v (.int xs.length))
  | [.tuple xs] => some (.v (.int xs.length))
  | [.str s] => if lineOk s.length then some (.v (.int s.length)) else none
  | [d] => match scrOf d with
    | some xs => some (.v (.int xs.length))
    | none => match asDct d with
      | some (_, kvs) => some (.v (.int kvs.length))
      | none => none
  | _ => none
def fAbs : List D → Option Res
  | [.int i] => some (.v (.int (if i < 0 then -i else i)))
  | _ => none
def fInt : List D → Option Res
  | [.int i] => some (.v (.int i))
  | [.bool b] => some (.v (.int (if b then 1 else 0)))
  | _ => none
def fMax : List D → Option Res
  | [.int i, .int j] => some (.v (.int (if j > i then j else i)))
  | [.list ds] => match asInts ds with
    | some (n :: ns) => some (.v (.int (mostI n ns)))
    | _ => none
  | _ => none
def fMin : List D → Option Res
  | [.int i, .int j] => some (.v (.int (if j < i then j else i)))
  | [.list ds] => match asInts ds with
    | some (n :: ns) => some (.v (.int (leastI n ns)))
    | _ => none
  | _ => none
def fSum : List D → Option Res
  | [.list ds] => match asInts ds with
    | some ns => some (.v (.int ns.sum))
    | _ => none
  | _ => none
def fList : List D → Option Res
  | [.list ds] => some (.f (.list ds))
  | [.tuple ds] => some (.f (.list ds))
  | _ => none
def fTuple : List D → Option Res
  | [.list ds] => some (.v (.tuple ds))
  | [.tuple ds] => some (.v (.tuple ds))
  | _ => none
def fSortI : List D → Option Res
  | [.list ds] => match asInts ds with
    | some ns => some (.f (.list ((sortI ns).map PyData.int)))
    | _ => none
  | _ => none
def fGcd : List D → Option Res
  | [.int a, .int b] => some (.v (.int ((Nat.gcd a.natAbs b.natAbs : Nat) : Int)))
  | _ => none
section
variable {X : Cx} {c : Ct} {F H : Hp}
theorem CallR.or {f : Value} {r r' : List V → Hp → VK → Prop} (h : CallR X f r) (h' : CallR X f r') : CallR X f (fun xs H Q => r xs H Q ∨ r' xs H Q) := by
  intro pins s σ H xs us Q I rs q
  rcases q with q | q
  · exact h pins s σ H xs us Q I rs q
  · exact h' pins s σ H xs us Q I rs q
theorem RdXs.one {d : D} {xs : List V} (h : RdXs c F H [d] xs) : ∃ x, xs = [x] ∧ RdX c F H d x := by
  cases h with | cons h t => cases t; exact ⟨_, rfl, h⟩
theorem RdXs.two {d e : D} {xs : List V} (h : RdXs c F H [d, e] xs) : ∃ x y, xs = [x, y] ∧ RdX c F H d x ∧ RdX c F H e y := by
  cases h with | cons h t => cases t with | cons h' t => cases t; exact ⟨_, _, rfl, h, h'⟩
theorem RdX.ints {ds : List D} {ns : List Int} {x : V} (e : Ex F H) (h : RdX c F H (.list ds) x) (hn : asInts ds = some ns) : ∃ a, x = .ref a ∧ Rd H a (.lst (ns.map V.int)) := by
  obtain ⟨a, vs, rfl, r, q⟩ := h.list e
  rw [asInts_eq hn] at q
  rw [Reps.ofInts q] at r
  exact ⟨a, rfl, r⟩
def rLenD : List V → Hp → VK → Prop := fun xs H Q => ∃ a, xs = [.ref a] ∧ ((∃ ws, Rd H a (.dK ws) ∧ Q (.int (ws.length : Nat)) H) ∨ ∃ ws, Rd H a (.dT ws) ∧ Q (.int (ws.length : Nat)) H)
theorem call_lenDR : CallR X (.builtin "len") rLenD := by
  intro pins s σ H xs us Q I r h
  obtain ⟨a, rfl, h⟩ := h
  obtain ⟨u, rfl, rx⟩ := vals1 r
  obtain rfl : u = .ref a := rx
  rcases h with ⟨ws, e, q⟩ | ⟨ws, e, q⟩
  · exact d_len I e fun t s' I' => ⟨.int _, H, I', ⟨_, rfl⟩, q⟩
  · obtain ⟨z, hd, ys, rel, dd⟩ := dt_rd I.hok e
    have hl : ws.length = ys.length := Paired.length rel
    refine call_len_dictH hd dd (by rw [← hl]; rw [sizeLine_eq] at z; omega) ?_
    rw [← hl]
    exact ⟨.int ((ws.length : Nat) : Int), H, I.tok _, ⟨_, rfl⟩, q⟩
abbrev rLenA (K : Frag) : List V → Hp → VK → Prop := fun xs H Q => (∃ p ys, xs = [.ref p] ∧ (SqL K H p ys ∨ SqT K H p ys) ∧ Q (.int ys.length) H) ∨ ((∃ z, xs = [.str z] ∧ z.length ≤ sizeLine ∧ Q (.int z.length) H) ∨ rLenD xs H Q)
theorem c_len : CallR X (.builtin "len") (rLenA X.K) := CallR.or call_len_seq (CallR.or call_len_str call_lenDR)
theorem D_len : CallD c (rLenA c.K) fLen := by
  intro F H ds xs res Q e h hf
  match ds, h, hf with
  | [.none], _, hf => simp [fLen, asDct, scrOf] at hf
  | [.bool _], _, hf => simp [fLen, asDct, scrOf] at hf
  | [.int _], _, hf => simp [fLen, asDct, scrOf] at hf
  | [.list ys], h, hf =>
    cases hf
    obtain ⟨x, rfl, g⟩ := h.one
    obtain ⟨a, vs, rfl, r, q⟩ := g.list e
    exact ⟨sv, fun k => .inl ⟨a, vs, rfl, .inl (.inl r), by rw [q.length]; exact k.here e (.int _)⟩⟩
  | [.tuple ys], h, hf =>
    cases hf
    obtain ⟨x, rfl, g⟩ := h.one
    obtain ⟨a, vs, rfl, r, q, _⟩ := g.tuple e
    exact ⟨sv, fun k => .inl ⟨a, vs, rfl, .inr r, by rw [q.length]; exact k.here e (.int _)⟩⟩
  | [.str s], h, hf =>
    simp only [fLen] at hf
    split at hf
    · rename_i hl
      cases hf
      obtain ⟨x, rfl, g⟩ := h.one
      exact ⟨sv, fun k => .inr (.inl ⟨s, by rw [g.str], lineOk_le hl, k.here e (.int _)⟩)⟩
    · cases hf
  | [.dict ps], h, hf =>
    simp only [fLen] at hf
    split at hf
    · rename_i xs ha
      cases hf
      obtain ⟨x, rfl, g⟩ := h.one
      rw [scrOf_eq ha] at g
      obtain ⟨a, vs, rfl, r, q⟩ := RdX.scr e g
      exact ⟨sv, fun k => .inl ⟨a, vs, rfl, .inl r, by rw [q.length]; exact k.here e (.int _)⟩⟩
    split at hf
    · rename_i u kvs ha
      cases hf
      obtain ⟨x, rfl, g⟩ := h.one
      have := asDct_eq ha
      rw [this] at g
      refine ⟨sv, fun k => .inr (.inr ?_)⟩
      rcases g.dict e with ⟨a, ws, _, rfl, r, q⟩ | ⟨a, ws, _, rfl, r, q⟩
      · exact ⟨a, rfl, .inl ⟨ws, r, by rw [q.length]; exact k.here e (.int _)⟩⟩
      · exact ⟨a, rfl, .inr ⟨ws, r, by rw [q.length]; exact k.here e (.int _)⟩⟩
    · cases hf
theorem D_abs : CallD c (fun xs H Q => ∃ i, xs = [.int i] ∧ Q (.int (if i < 0 then -i else i)) H) fAbs := by
  intro F H ds xs res Q e h hf
  match ds, h, hf with
  | [.int i], h, hf =>
    cases hf
    obtain ⟨x, rfl, g⟩ := h.one
    exact ⟨sv, fun k => ⟨i, by rw [g.int], k.here e (.int _)⟩⟩
theorem D_int : CallD c (fun xs H Q => (∃ i, xs = [.int i] ∧ Q (.int i) H) ∨ ∃ k, xs = [.bl k] ∧ Q (.int (if k then 1 else 0)) H) fInt := by
  intro F H ds xs res Q e h hf
  match ds, h, hf with
  | [.int i], h, hf =>
    cases hf
    obtain ⟨x, rfl, g⟩ := h.one
    exact ⟨sv, fun k => .inl ⟨i, by rw [g.int], k.here e (.int _)⟩⟩
  | [.bool b], h, hf =>
    cases hf
    obtain ⟨x, rfl, g⟩ := h.one
    exact ⟨sv, fun k => .inr ⟨b, by rw [g.bool], k.here e (.int _)⟩⟩
abbrev rMaxA (K : Frag) : List V → Hp → VK → Prop := fun xs H Q => (∃ i j, xs = [.int i, .int j] ∧ Q (.int (if j > i then j else i)) H) ∨ rMax K xs H Q
theorem c_max (hc : X.calm = true) : CallR X (.builtin "max") (rMaxA X.K) := CallR.or (call_max2 hc) (cr_max hc)
theorem D_max : CallD c (rMaxA c.K) fMax := by
  intro F H ds xs res Q e h hf
  match ds, h, hf with
  | [.int i, .int j], h, hf =>
    cases hf
    obtain ⟨x, y, rfl, g, g'⟩ := h.two
    exact ⟨sv, fun k => .inl ⟨i, j, by rw [g.int, g'.int], k.here e (.int _)⟩⟩
  | [.list ds], h, hf =>
    simp only [fMax] at hf
    split at hf
    · rename_i n ns ha
      cases hf
      obtain ⟨x, rfl, g⟩ := h.one
      obtain ⟨a, rfl, r⟩ := g.ints e ha
      refine ⟨sv, fun k => .inr ⟨a, n :: ns, rfl, .inl r, Nat.succ_pos _, fun m hm hle => ?_⟩⟩
      have e1 := hle _ (mostI_mem ns n)
      have e2 : m ≤ mostI n ns := by
        rcases List.mem_cons.mp hm with rfl | hm
        · exact (mostI_le ns _).1
        · exact (mostI_le ns n).2 m hm
      have e3 : m = mostI n ns := by omega
      rw [e3]
      exact k.here e (.int _)
    · cases hf
abbrev rMinA (K : Frag) : List V → Hp → VK → Prop := fun xs H Q => (∃ i j, xs = [.int i, .int j] ∧ Q (.int (if j < i then j else i)) H) ∨ rMin K xs H Q
theorem c_min (hc : X.calm = true) : CallR X (.builtin "min") (rMinA X.K) := CallR.or (call_min2 hc) (cr_min hc)
theorem D_min : CallD c (rMinA c.K) fMin := by
  intro F H ds xs res Q e h hf
  match ds, h, hf with
  | [.int i, .int j], h, hf =>
    cases hf
    obtain ⟨x, y, rfl, g, g'⟩ := h.two
    exact ⟨sv, fun k => .inl ⟨i, j, by rw [g.int, g'.int], k.here e (.int _)⟩⟩
  | [.list ds], h, hf =>
    simp only [fMin] at hf
    split at hf
    · rename_i n ns ha
      cases hf
      obtain ⟨x, rfl, g⟩ := h.one
      obtain ⟨a, rfl, r⟩ := g.ints e ha
      refine ⟨sv, fun k => .inr ⟨a, n :: ns, rfl, .inl r, Nat.succ_pos _, fun m hm hle => ?_⟩⟩
      have e1 := hle _ (leastI_mem ns n)
      have e2 : leastI n ns ≤ m := by
        rcases List.mem_cons.mp hm with rfl | hm
        · exact (leastI_le ns _).1
        · exact (leastI_le ns n).2 m hm
      have e3 : m = leastI n ns := by omega
      rw [e3]
      exact k.here e (.int _)
    · cases hf
theorem D_sum : CallD c (rSum c.K) fSum := by
  intro F H ds xs res Q e h hf
  match ds, h, hf with
  | [.list ds], h, hf =>
    simp only [fSum] at hf
    split at hf
    · rename_i ns ha
      cases hf
      obtain ⟨x, rfl, g⟩ := h.one
      obtain ⟨a, rfl, r⟩ := g.ints e ha
      exact ⟨sv, fun k => ⟨a, ns, rfl, .inl r, k.here e (.int _)⟩⟩
    · cases hf
theorem D_list : CallD c (fun xs H Q => ∃ p ys, xs = [.ref p] ∧ (SqL c.K H p ys ∨ SqT c.K H p ys) ∧ ∀ l, H l = none → Q (.ref l) (upd H l (.lst ys))) fList := by
  intro F H ds xs res Q e h hf
  match ds, h, hf with
  | [.list ys], h, hf =>
    cases hf
    obtain ⟨x, rfl, g⟩ := h.one
    obtain ⟨a, vs, rfl, r, q⟩ := g.list e
    exact ⟨sf, fun k => ⟨a, vs, rfl, .inl (.inl r), fun p hp => k.lst e q hp⟩⟩
  | [.tuple ys], h, hf =>
    cases hf
    obtain ⟨x, rfl, g⟩ := h.one
    obtain ⟨a, vs, rfl, r, q, _⟩ := g.tuple e
    exact ⟨sf, fun k => ⟨a, vs, rfl, .inr r, fun p hp => k.lst e q hp⟩⟩
theorem D_tuple : CallD c (fun xs H Q => ∃ p ys, xs = [.ref p] ∧ ((SqL c.K H p ys ∧ ∀ l, H l = none → Q (.ref l) (upd H l (.tup ys))) ∨ (SqT c.K H p ys ∧ Q (.ref p) H))) fTuple := by
  intro F H ds xs res Q e h hf
  match ds, h, hf with
  | [.list ys], h, hf =>
    cases hf
    obtain ⟨x, rfl, g⟩ := h.one
    obtain ⟨a, vs, rfl, r, q⟩ := g.list e
    exact ⟨sv, fun k => ⟨a, vs, rfl, .inl ⟨.inl r, fun p hp => k.tup e q hp⟩⟩⟩
  | [.tuple ys], h, hf =>
    cases hf
    obtain ⟨x, rfl, g⟩ := h.one
    obtain ⟨a, vs, rfl, r, q, t⟩ := g.tuple e
    exact ⟨sv, fun k => ⟨a, vs, rfl, .inr ⟨r, k.here e (.tup t q)⟩⟩⟩
theorem D_sortI : CallD c (rSortedI c.K) fSortI := by
  intro F H ds xs res Q e h hf
  match ds, h, hf with
  | [.list ds], h, hf =>
    simp only [fSortI] at hf
    split at hf
    · rename_i ns ha
      cases hf
      obtain ⟨x, rfl, g⟩ := h.one
      obtain ⟨a, rfl, r⟩ := g.ints e ha
      refine ⟨sf, fun k => ⟨a, ns, rfl, .inl r, fun ns' p hp ho hn => ?_⟩⟩
      have e3 : ns' = sortI ns := ord_same (hp.trans (sortI_perm ns).symm) ho (sortI_ord ns)
      rw [e3]
      exact k.lst e (Reps.ints _) hn
    · cases hf
theorem D_gcd : CallD c rGcd fGcd := by
  intro F H ds xs res Q e h hf
  match ds, h, hf with
  | [.int i, .int j], h, hf =>
    cases hf
    obtain ⟨x, y, rfl, g, g'⟩ := h.two
    exact ⟨sv, fun k => ⟨i, j, by rw [g.int, g'.int], k.here e (.int _)⟩⟩
end
end Pd
end
section
set_option Elab.async false
set_option linter.all false
set_option maxRecDepth 100000
set_option maxHeartbeats 4000000
namespace Pd
open PySem L2

/-! ### changes of the state -/
/-- the slot tells the changed object -/
def Sl.with (d : D) : Sl → Sl
  | .o _ => .o d
  | .b _ => .b d
  | s => s
section
variable {B : Bs} {W : WX} {F H : Hp} {σ : L2.St} {ρ : Env}
theorem get_lt {α : Type} {l : List α} {i : Nat} {x : α} (h : l[i]? = some x) : i < l.length := (List.getElem?_eq_some_iff.mp h).1
/-- a value is stored in a slot -/
theorem St.setV (S : St B F σ H ρ) (i : Nat) {d : D} {v : V} (r : Rep B.c F d v) : St B F (σ.set i (some v)) H (ρ.set i (.v d)) where
  len := by rw [List.length_set, List.length_set]; exact S.len
  ex := S.ex
  sl := fun j t x h1 h2 => by
    by_cases e : i = j
    · subst e
      have a := get_lt h1
      have b := get_lt h2
      rw [List.length_set] at a b
      rw [List.getElem?_set_self a] at h1
      rw [List.getElem?_set_self b] at h2
      cases h1
      cases h2
      exact ⟨v, rfl, r⟩
    · rw [List.getElem?_set_ne e] at h1 h2
      exact S.sl j t x h1 h2
  sep := fun j k t u p h1 h2 h3 h4 h5 h6 => by
    have out : ∀ (m : Nat) (t : Sl), (ρ.set i (.v d))[m]? = some t → t.mine ≠ none → i ≠ m := fun m t e1 e2 z => by
      subst z
      have a := get_lt e1
      rw [List.length_set] at a
      rw [List.getElem?_set_self a] at e1
      cases e1
      exact e2 rfl
    have a := out j t h1 h3
    have b := out k u h2 h4
    rw [List.getElem?_set_ne a] at h1 h5
    rw [List.getElem?_set_ne b] at h2 h6
    exact S.sep j k t u p h1 h2 h3 h4 h5 h6
  keep := S.keep
  low := S.low
  new := S.new
  dom := S.dom
  iow := S.iow
/-- a slot's value is forgotten -/
theorem St.setU (S : St B F σ H ρ) (i : Nat) (v : Option V) : St B F (σ.set i v) H (ρ.set i .u) where
  len := by rw [List.length_set, List.length_set]; exact S.len
  ex := S.ex
  sl := fun j t x h1 h2 => by
    by_cases e : i = j
    · subst e
      have a := get_lt h1
      rw [List.length_set] at a
      rw [List.getElem?_set_self a] at h1
      cases h1
      exact True.intro
    · rw [List.getElem?_set_ne e] at h1 h2
      exact S.sl j t x h1 h2
  sep := fun j k t u p h1 h2 h3 h4 h5 h6 => by
    have out : ∀ (m : Nat) (t : Sl), (ρ.set i .u)[m]? = some t → t.mine ≠ none → i ≠ m := fun m t e1 e2 z => by
      subst z
      have a := get_lt e1
      rw [List.length_set] at a
      rw [List.getElem?_set_self a] at e1
      cases e1
      exact e2 rfl
    have a := out j t h1 h3
    have b := out k u h2 h4
    rw [List.getElem?_set_ne a] at h1 h5
    rw [List.getElem?_set_ne b] at h2 h6
    exact S.sep j k t u p h1 h2 h3 h4 h5 h6
  keep := S.keep
  low := S.low
  new := S.new
  dom := S.dom
  iow := S.iow
/-- a new own object is stored in a slot -/
theorem St.setO (S : St B F σ H ρ) (i : Nat) {d : D} {p : Addr} (hp : F p = none) (h0 : B.H0 p = none) (ho : Own B.c F H p d) (hs : ∀ (i : Nat) (s : Sl), ρ[i]? = some s → s.mine ≠ none → σ[i]? ≠ some (some (.ref p))) :
    St B F (σ.set i (some (.ref p))) H (ρ.set i (.o d)) where
  len := by rw [List.length_set, List.length_set]; exact S.len
  ex := S.ex
  sl := fun j t x h1 h2 => by
    by_cases e : i = j
    · subst e
      have a := get_lt h1
      have b := get_lt h2
      rw [List.length_set] at a b
      rw [List.getElem?_set_self a] at h1
      rw [List.getElem?_set_self b] at h2
      cases h1
      cases h2
      exact ⟨p, rfl, hp, h0, ho⟩
    · rw [List.getElem?_set_ne e] at h1 h2
      exact S.sl j t x h1 h2
  sep := fun j k t u q h1 h2 h3 h4 h5 h6 => by
    have at_ : ∀ (m : Nat), (σ.set i (some (V.ref p)))[m]? = some (some (.ref q)) → i = m → q = p := fun m e1 z => by
      subst z
      have a := get_lt e1
      rw [List.length_set] at a
      rw [List.getElem?_set_self a] at e1
      cases e1
      rfl
    by_cases a : i = j
    · by_cases b : i = k
      · exact a.symm.trans b
      · have e := at_ j h5 a
        subst e
        rw [List.getElem?_set_ne b] at h2 h6
        exact absurd h6 (hs k u h2 h4)
    · by_cases b : i = k
      · have e := at_ k h6 b
        subst e
        rw [List.getElem?_set_ne a] at h1 h5
        exact absurd h5 (hs j t h1 h3)
      · rw [List.getElem?_set_ne a] at h1 h5
        rw [List.getElem?_set_ne b] at h2 h6
        exact S.sep j k t u q h1 h2 h3 h4 h5 h6
  keep := S.keep
  low := S.low
  new := S.new
  dom := S.dom
  iow := S.iow
/-- the own object of slot i is changed -/
theorem St.mut (S : St B F σ H ρ) {i : Nat} {s : Sl} {d d' : D} {p : Addr} {o : HO} (hi : ρ[i]? = some s) (hm : s.mine = some d) (hσ : σ[i]? = some (some (.ref p))) (ho : Own B.c F (upd H p o) p d') :
    St B F σ (upd H p o) (ρ.set i (s.with d')) := by
  have q := S.sl i s _ hi hσ
  obtain ⟨a, e1, hp, ho0⟩ := q.mine hm
  cases e1
  have hmine : (s.with d').mine = some d' := by cases s <;> first | rfl | cases hm
  have li := get_lt hi
  have other : ∀ (j : Nat) (t : Sl) (x : Option V), i ≠ j → SlOk B F H j t x → ρ[j]? = some t → σ[j]? = some x → SlOk B F (upd H p o) j t x := fun j t x ne q h1 h2 => by
    have apart : ∀ a : Addr, x = some (.ref a) → t.mine ≠ none → a ≠ p := fun a e2 e3 z => by
      subst z
      exact ne (S.sep i j s t a hi h1 (by rw [hm]; exact Option.some_ne_none _) e3 hσ (by rw [h2, e2]))
    cases t with
    | u => exact True.intro
    | v d => exact q
    | o d =>
      obtain ⟨a, e1, e2, e3, e4⟩ := q
      exact ⟨a, e1, e2, e3, e4.ex (Ex.refl F) (upd_ne (apart a e1 (by intro z; cases z)))⟩
    | b d =>
      obtain ⟨a, e1, e2, e3, e4⟩ := q
      exact ⟨a, e1, e2, e3, e4.ex (Ex.refl F) (upd_ne (apart a e1 (by intro z; cases z)))⟩
    | e n => exact q
  refine ⟨by rw [List.length_set]; exact S.len, S.ex.put hp, fun j t x h1 h2 => ?_, fun j k t u p' h1 h2 h3 h4 h5 h6 => ?_, fun b ob h1 h2 => ?_, S.low, S.new, fun b h => ?_, S.iow⟩
  · by_cases ne : i = j
    · subst ne
      rw [List.getElem?_set_self li] at h1
      cases h1
      rw [hσ] at h2
      cases h2
      cases s with
      | u => cases hm
      | v _ => cases hm
      | e _ => cases hm
      | o _ => obtain ⟨a, e1, e2, e3, e4⟩ := q; cases e1; exact ⟨p, rfl, e2, e3, ho⟩
      | b _ => obtain ⟨a, e1, e2, e3, e4⟩ := q; cases e1; exact ⟨p, rfl, e2, e3, ho⟩
    · rw [List.getElem?_set_ne ne] at h1
      exact other j t x ne (S.sl j t x h1 h2) h1 h2
  · have back : ∀ (m : Nat) (t : Sl), (ρ.set i (s.with d'))[m]? = some t → t.mine ≠ none → ∃ t', ρ[m]? = some t' ∧ t'.mine ≠ none := fun m t e1 e2 => by
      by_cases ne : i = m
      · subst ne
        exact ⟨s, hi, by rw [hm]; exact Option.some_ne_none _⟩
      · rw [List.getElem?_set_ne ne] at e1
        exact ⟨t, e1, e2⟩
    obtain ⟨t', a1, a2⟩ := back j t h1 h3
    obtain ⟨u', b1, b2⟩ := back k u h2 h4
    exact S.sep j k t' u' p' a1 b1 a2 b2 h5 h6
  · have hne : b ≠ p := fun z => by
      subst z
      cases s with
      | u => cases hm
      | v _ => cases hm
      | e _ => cases hm
      | o _ => obtain ⟨a, e1, e2, e3, e4⟩ := q; cases e1; rw [e3] at h1; cases h1
      | b _ => obtain ⟨a, e1, e2, e3, e4⟩ := q; cases e1; exact h2 i e3
    rw [upd_ne hne]
    exact S.keep b ob h1 h2
  · by_cases hne : b = p
    · rw [hne, upd_same]; exact Option.some_ne_none _
    · rw [upd_ne hne]; exact S.dom b h
end

/-! ### statements -/
inductive SOut where
  | nx (ρ : Env) | rt (r : Res) (ρ : Env) | bk (ρ : Env) | ct (ρ : Env) | ex (c : String) (ρ : Env) | bad
abbrev Sv := Env → SOut
def SOk (B : Bs) (W : WX) (F : Hp) (D : Ends) : SOut → Prop
  | .nx ρ => ∀ F' σ' H', Ex F F' → St B F' σ' H' ρ → D.nx σ' H'
  | .rt r ρ => ∀ F' σ' H' x, Ex F F' → St B F' σ' H' ρ → ResOk B F' σ' H' ρ r x → D.rt x H'
  | .bk ρ => ∀ F' σ' H', Ex F F' → St B F' σ' H' ρ → D.bk σ' H'
  | .ct ρ => ∀ F' σ' H', Ex F F' → St B F' σ' H' ρ → D.ct σ' H'
  | .ex c ρ => ∀ F' σ' H', Ex F F' → St B F' σ' H' ρ → W (.ref (B.ec c)) none σ' H'
  | .bad => False
def tS (B : Bs) (W : WX) (e : Sv) : TS := fun D σ H => ∃ F ρ, St B F σ H ρ ∧ SOk B W F D (e ρ)
abbrev PSD (X : Cx) (B : Bs) (W : WX) (st : Stmt) (e : Sv) : Prop := PS X st (tS B W e)
abbrev PSsD (X : Cx) (B : Bs) (W : WX) (st : List Stmt) (e : Sv) : Prop := PSs X st (tS B W e)
theorem ps_wk {X : Cx} {st : Stmt} {t t' : TS} (h : PS X st t) (k : ∀ D σ H, t' D σ H → t D σ H) : PS X st t' := ⟨fun pins s σ H D I q => h.run pins s σ H D I (k D σ H q)⟩
theorem pss_wk {X : Cx} {st : List Stmt} {t t' : TS} (h : PSs X st t) (k : ∀ D σ H, t' D σ H → t D σ H) : PSs X st t' := ⟨fun pins s σ H D I q => h.run pins s σ H D I (k D σ H q)⟩
section
variable {B : Bs} {W : WX} {F F1 H : Hp} {σ : L2.St} {ρ : Env} {D : Ends}
theorem SOk.mono {o : SOut} (e : Ex F F1) (h : SOk B W F D o) : SOk B W F1 D o := by
  cases o with
  | nx ρ => exact fun F' σ' H' e' => h F' σ' H' (e.trans e')
  | rt r ρ => exact fun F' σ' H' x e' => h F' σ' H' x (e.trans e')
  | bk ρ => exact fun F' σ' H' e' => h F' σ' H' (e.trans e')
  | ct ρ => exact fun F' σ' H' e' => h F' σ' H' (e.trans e')
  | ex c ρ => exact fun F' σ' H' e' => h F' σ' H' (e.trans e')
  | bad => exact h
/-- an expression's outcome goes on as a statement -/
def Out.bdS : Out → (Res → Env → SOut) → SOut
  | .ok r ρ, k => k r ρ
  | .ex c ρ, _ => .ex c ρ
  | .bad, _ => .bad
def OutT.bdS : OutT → (Bool → Env → SOut) → SOut
  | .ok r ρ, k => k r ρ
  | .ex c ρ, _ => .ex c ρ
  | .bad, _ => .bad
theorem bdS_ok {a : Ev} {k : Res → Env → SOut} {R : VK} (S : St B F σ H ρ) (h : SOk B W F D ((a ρ).bdS k))
    (step : ∀ r ρ1 F1 H1 x, Ex F F1 → St B F1 σ H1 ρ1 → ResOk B F1 σ H1 ρ1 r x → SOk B W F1 D (k r ρ1) → R x H1) : tE B W a σ H R := by
  refine ⟨F, ρ, S, ?_⟩
  cases e : a ρ with
  | ok r ρ1 => rw [e] at h; exact fun F1 H1 x e1 S1 R1 => step r ρ1 F1 H1 x e1 S1 R1 (SOk.mono e1 h)
  | ex c ρ1 => rw [e] at h; exact fun F' H' e' S' => h F' σ H' e' S'
  | bad => rw [e] at h; exact h
theorem tbdS_ok {a : EvT} {k : Bool → Env → SOut} {R : Bool → Hp → Prop} (S : St B F σ H ρ) (h : SOk B W F D ((a ρ).bdS k))
    (step : ∀ r ρ1 F1 H1, Ex F F1 → St B F1 σ H1 ρ1 → SOk B W F1 D (k r ρ1) → R r H1) : tT B W a σ H R := by
  refine ⟨F, ρ, S, ?_⟩
  cases e : a ρ with
  | ok r ρ1 => rw [e] at h; exact fun F1 H1 e1 S1 => step r ρ1 F1 H1 e1 S1 (SOk.mono e1 h)
  | ex c ρ1 => rw [e] at h; exact fun F' H' e' S' => h F' σ H' e' S'
  | bad => rw [e] at h; exact h
end

/-- a statement, then the rest -/
def sSeq (a b : Sv) : Sv := fun ρ => match a ρ with
  | .nx ρ1 => b ρ1
  | o => o
def sNx : Sv := fun ρ => .nx ρ
def sRet (a : Ev) : Sv := fun ρ => (a ρ).bdS fun r ρ1 => .rt r ρ1
def sRetN : Sv := fun ρ => .rt (.v .none) ρ
def sDrop (a : Ev) : Sv := fun ρ => (a ρ).bdS fun _ ρ1 => .nx ρ1
def sIf (t : EvT) (a b : Sv) : Sv := fun ρ => (t ρ).bdS fun k ρ1 => match k with
  | true => a ρ1
  | false => b ρ1
def setR (ρ : Env) (i : Nat) : Res → Option Env
  | .v d => some (ρ.set i (.v d))
  | .f d => some (ρ.set i (.o d))
  | .s j => match frzR ρ (.s j) with
    | some (d, ρ') => some (ρ'.set i (.v d))
    | none => none
def sSet (i : Nat) (a : Ev) : Sv := fun ρ => (a ρ).bdS fun r ρ1 => match setR ρ1 i r with
  | some ρ2 => .nx ρ2
  | none => .bad
def sBk : Sv := fun ρ => .bk ρ
def sCt : Sv := fun ρ => .ct ρ
section
variable {X : Cx} {B : Bs} {W : WX} {x y z : Expr} {st : Stmt} {rest : List Stmt} {a b d : Ev} {s t : Sv} {pos : Pos} {D : Ends} {σ : L2.St} {H F : Hp} {ρ : Env}
theorem seq_ok (h : tS B W (sSeq s t) D σ H) : tS B W s { D with nx := tS B W t D } σ H := by
  obtain ⟨F, ρ, S, h⟩ := h
  refine ⟨F, ρ, S, ?_⟩
  unfold sSeq at h
  cases e : s ρ with
  | nx ρ1 => rw [e] at h; exact fun F' σ' H' e' S' => ⟨F', ρ1, S', SOk.mono e' h⟩
  | rt r ρ1 => rw [e] at h; exact h
  | bk ρ1 => rw [e] at h; exact h
  | ct ρ1 => rw [e] at h; exact h
  | ex c ρ1 => rw [e] at h; exact h
  | bad => rw [e] at h; exact h
theorem s_nil : PSsD X B W [] sNx := pss_wk pss_nil fun D σ H ⟨F, ρ, S, h⟩ => h F σ H (Ex.refl F) S
theorem s_cons (h1 : PSD X B W st s) (h2 : PSsD X B W rest t) : PSsD X B W (st :: rest) (sSeq s t) := pss_wk (pss_cons h1 h2) fun D σ H h => seq_ok h
theorem s_one (h : PSD X B W st s) : PSsD X B W [st] s := pss_one h
theorem s_pass : PSD X B W (.Pass pos) sNx := ps_wk ps_pass fun D σ H ⟨F, ρ, S, h⟩ => h F σ H (Ex.refl F) S
theorem s_break : PSD X B W (.Break pos) sBk := ps_wk ps_break fun D σ H ⟨F, ρ, S, h⟩ => h F σ H (Ex.refl F) S
theorem s_continue : PSD X B W (.Continue pos) sCt := ps_wk ps_continue fun D σ H ⟨F, ρ, S, h⟩ => h F σ H (Ex.refl F) S
theorem s_ret (ha : PED X B W x a) : PSD X B W (.Return (some x) pos) (sRet a) := ps_wk (ps_ret ha) fun D σ H ⟨F, ρ, S, h⟩ =>
  bdS_ok S h fun r ρ1 F1 H1 x e1 S1 R1 h1 => h1 F1 σ H1 x (Ex.refl _) S1 R1
theorem s_retN : PSD X B W (.Return none pos) sRetN := ps_wk ps_retN fun D σ H ⟨F, ρ, S, h⟩ => h F σ H .non (Ex.refl F) S .non
theorem s_drop (ha : PED X B W x a) (hs : swapsWith x none pos.line X.env = pure false := by rfl) : PSD X B W (.Expr x pos) (sDrop a) := ps_wk (ps_expr ha hs) fun D σ H ⟨F, ρ, S, h⟩ =>
  bdS_ok S h fun r ρ1 F1 H1 x e1 S1 R1 h1 => h1 F1 σ H1 (Ex.refl _) S1
theorem s_if {c : Expr} {k : EvT} {l m : List Stmt} (hc : PTD X B W c k) (h1 : PSsD X B W l s) (h2 : PSsD X B W m t) : PSD X B W (.If c l m pos) (sIf k s t) := ps_wk (ps_if hc h1 h2) fun D σ H ⟨F, ρ, S, h⟩ =>
  tbdS_ok S h fun r ρ1 F1 H1 e1 S1 h1 => by
    cases r with
    | true => rw [if_pos rfl]; exact ⟨F1, ρ1, S1, h1⟩
    | false => rw [if_neg Bool.false_ne_true]; exact ⟨F1, ρ1, S1, h1⟩
theorem setR_ok {r : Res} {v : V} {i : Nat} {ρ' : Env} (S : St B F σ H ρ) (R : ResOk B F σ H ρ r v) (h : setR ρ i r = some ρ') : ∃ F', Ex F F' ∧ St B F' (σ.set i (some v)) H ρ' := by
  cases r with
  | v d => cases h; exact ⟨F, Ex.refl F, S.setV i R⟩
  | f d =>
    cases h
    obtain ⟨p, rfl, hp, h0, ho, hs⟩ := R
    exact ⟨F, Ex.refl F, S.setO i hp h0 ho hs⟩
  | s j =>
    simp only [setR] at h
    cases e : frzR ρ (.s j) with
    | none => rw [e] at h; cases h
    | some q =>
      obtain ⟨d, ρ1⟩ := q
      rw [e] at h
      cases h
      obtain ⟨F1, e1, S1, r1⟩ := frzR_ok S R e
      exact ⟨F1, e1, S1.setV i r1⟩
theorem set_ok {i : Nat} (h : tS B W (sSet i a) D σ H) : tAsg (tE B W a) (gName i) D σ H := by
  obtain ⟨F, ρ, S, h⟩ := h
  refine bdS_ok S h fun r ρ1 F1 H1 x e1 S1 R1 h1 => ?_
  cases e : setR ρ1 i r with
  | none => simp only [e] at h1; exact h1.elim
  | some ρ2 =>
    simp only [e] at h1
    obtain ⟨F2, e2, S2⟩ := setR_ok S1 R1 e
    exact h1 F2 _ H1 e2 S2
theorem s_set {i : Nat} {nm : Str} {pos' : Pos} (hN : X.N.Nodup) (hi : X.N[i]? = some nm) (hx : Loc X.env.scope nm) (ha : PED X B W x a) (hs : swapsWith x (some (.Name nm pos')) pos.line X.env = pure false := by rfl)
    (hf : X.fn nm = true ∨ X.env.scope.names.lookup nm = some .local := by first | exact .inl rfl | exact .inr rfl | assumption) : PSD X B W (.Assign [.Name nm pos'] x pos) (sSet i a) :=
  ps_wk (ps_set hN hi hx ha hs hf) fun D σ H h => set_ok h
end
end Pd
end
section
set_option Elab.async false
set_option linter.all false
set_option maxRecDepth 100000
set_option maxHeartbeats 4000000
namespace Pd
open PySem L2

/-! ### targets -/
abbrev Tg := D → Env → Option Env
def tgN (i : Nat) : Tg := fun d ρ => some (ρ.set i (.v d))
def goT : List Tg → List D → Env → Option Env
  | [], [], ρ => some ρ
  | t :: ts, d :: ds, ρ => match t d ρ with
    | some ρ1 => goT ts ds ρ1
    | none => none
  | _, _, _ => none
def tgT (ts : List Tg) : Tg := fun d ρ => match d with
  | .tuple ds => goT ts ds ρ
  | .list ds => goT ts ds ρ
  | _ => none
/-- only the slots ws may differ -/
structure Same (ws : List Nat) (σ σ' : L2.St) : Prop where
  len : σ'.length = σ.length
  at_ : ∀ j, j ∉ ws → σ'[j]? = σ[j]?
theorem Same.refl {ws : List Nat} {σ : L2.St} : Same ws σ σ := ⟨rfl, fun _ _ => rfl⟩
theorem Same.trans {ws vs : List Nat} {σ σ1 σ2 : L2.St} (a : Same ws σ σ1) (b : Same vs σ1 σ2) : Same (ws ++ vs) σ σ2 :=
  ⟨b.len.trans a.len, fun j h => by rw [List.mem_append, not_or] at h; rw [b.at_ j h.2, a.at_ j h.1]⟩
theorem Same.set {i : Nat} {x : Option V} {σ : L2.St} : Same [i] σ (σ.set i x) := ⟨List.length_set, fun j h => List.getElem?_set_ne fun z => h (by simp [z])⟩
def tG (B : Bs) (ws : List Nat) (t : Tg) : TG := fun v σ H Q => ∃ F ρ d ρ', St B F σ H ρ ∧ Rep B.c F d v ∧ t d ρ = some ρ' ∧ ∀ σ', Same ws σ σ' → St B F σ' H ρ' → Q σ' H
def tGs (B : Bs) (ws : List Nat) (ts : List Tg) : TGs := fun vs σ H Q => ∃ F ρ ds ρ', St B F σ H ρ ∧ Reps B.c F ds vs ∧ goT ts ds ρ = some ρ' ∧ ∀ σ', Same ws σ σ' → St B F σ' H ρ' → Q σ' H
/-- unpacking: the outermost object may be one's own -/
def tGX (B : Bs) (ws : List Nat) (ts : List Tg) : TG := fun v σ H Q => ∃ F ρ d ρ', St B F σ H ρ ∧ RdX B.c F H d v ∧ tgT ts d ρ = some ρ' ∧ ∀ σ', Same ws σ σ' → St B F σ' H ρ' → Q σ' H
abbrev PGD (X : Cx) (B : Bs) (tg : Expr) (ws : List Nat) (t : Tg) : Prop := PG X tg (tG B ws t)
abbrev PGsD (X : Cx) (B : Bs) (tg : List Expr) (ws : List Nat) (t : List Tg) : Prop := PGs X tg (tGs B ws t)
theorem pg_wk {X : Cx} {e : Expr} {t t' : TG} (h : PG X e t) (k : ∀ v σ H Q, t' v σ H Q → t v σ H Q) : PG X e t' := ⟨fun pins s σ H v u Q I r q => h.run pins s σ H v u Q I r (k v σ H Q q)⟩
theorem pgs_wk {X : Cx} {e : List Expr} {t t' : TGs} (h : PGs X e t) (k : ∀ v σ H Q, t' v σ H Q → t v σ H Q) : PGs X e t' := ⟨fun pins s σ H v u Q I r q => h.run pins s σ H v u Q I r (k v σ H Q q)⟩
theorem pg_or {X : Cx} {e : Expr} {t u : TG} (h : PG X e t) (h' : PG X e u) : PG X e (fun v σ H Q => t v σ H Q ∨ u v σ H Q) := ⟨fun pins s σ H v w Q I r q => by
  rcases q with q | q
  · exact h.run pins s σ H v w Q I r q
  · exact h'.run pins s σ H v w Q I r q⟩
theorem goT_len : ∀ {ts : List Tg} {ds : List D} {ρ ρ' : Env}, goT ts ds ρ = some ρ' → ts.length = ds.length
  | [], [], _, _, _ => rfl
  | [], _ :: _, _, _, h => by simp [goT] at h
  | _ :: _, [], _, _, h => by simp [goT] at h
  | t :: ts, d :: ds, ρ, ρ', h => by
    simp only [goT] at h
    split at h
    · rw [List.length_cons, List.length_cons, goT_len h]
    · cases h
section
variable {X : Cx} {B : Bs} {W : WX} {x y z : Expr} {es : List Expr} {st : Stmt} {rest : List Stmt} {a b d : Ev} {s t : Sv} {pos : Pos} {D' : Ends} {σ : L2.St} {H F : Hp} {ρ : Env}
theorem g_name {i : Nat} {nm : Str} (hN : X.N.Nodup) (hi : X.N[i]? = some nm) (hx : Loc X.env.scope nm) (hf : X.fn nm = true ∨ X.env.scope.names.lookup nm = some .local := by first | exact .inl rfl | exact .inr rfl | assumption) : PGD X B (.Name nm pos) [i] (tgN i) :=
  pg_wk (pg_name hN hi hx hf) fun v σ H Q ⟨F, ρ, d, ρ', S, r, e, k⟩ => by
    cases e
    exact k _ Same.set (S.setV i r)
theorem g_nil : PGsD X B [] [] [] := pgs_wk pgs_nil fun v σ H Q ⟨F, ρ, ds, ρ', S, r, e, k⟩ => by
  cases r with
  | nil => cases e; exact ⟨rfl, k σ Same.refl S⟩
  | cons _ _ => simp [goT] at e
theorem g_cons {u : Tg} {us : List Tg} {ws vs : List Nat} (h1 : PGD X B x ws u) (h2 : PGsD X B es vs us)
    (hs : (assignEach (x :: es) X.env).map (·.2) = assign x X.env :: (assignEach es X.env).map (·.2) := by rfl) : PGsD X B (x :: es) (ws ++ vs) (u :: us) :=
  pgs_wk (pgs_cons h1 h2 hs) fun v σ H Q ⟨F, ρ, ds, ρ', S, r, e, k⟩ => by
    cases r with
    | nil => simp [goT] at e
    | cons r1 r2 =>
      simp only [goT] at e
      split at e
      · rename_i ρ1 e1
        exact ⟨_, _, rfl, F, ρ, _, ρ1, S, r1, e1, fun σ1 m1 S1 => ⟨F, ρ1, _, ρ', S1, r2, e, fun σ2 m2 => k σ2 (m1.trans m2)⟩⟩
      · cases e
theorem gx_tup {k n : Nat} {us : List Tg} {ws : List Nat} (hK : B.c.K = X.K) (hc : X.calm = true) (h : PGsD X B es ws us) (hl : us.length = n)
    (hn : (assignEach es X.env).length = n := by rfl) (hst : (assignEach es X.env).findIdx? (·.1) = none := by rfl) : PG X (.Tuple es k pos) (tGX B ws us) :=
  pg_wk (pg_or (pg_tup hc h hn hst) (pg_lst hc h hn hst)) fun v σ H Q ⟨F, ρ, d, ρ', S, r, e, kk⟩ => by
    have go : ∀ ds vs, Reps B.c F ds vs → goT us ds ρ = some ρ' → vs.length = n ∧ tGs B ws us vs σ H Q := fun ds vs r e => ⟨by rw [r.length, ← goT_len e, hl], F, ρ, ds, ρ', S, r, e, kk⟩
    cases d with
    | tuple ds =>
      obtain ⟨a, vs, rfl, q, q2, _⟩ := r.tuple S.ex
      obtain ⟨g1, g2⟩ := go ds vs q2 e
      exact .inl ⟨a, vs, rfl, by rw [← hK]; exact q, g1, g2⟩
    | list ds =>
      obtain ⟨a, vs, rfl, q, q2⟩ := r.list S.ex
      obtain ⟨g1, g2⟩ := go ds vs q2 e
      exact .inr ⟨a, vs, rfl, .inl q, g1, g2⟩
    | _ => cases e
theorem g_tup {k n : Nat} {us : List Tg} {ws : List Nat} (hK : B.c.K = X.K) (hc : X.calm = true) (h : PGsD X B es ws us) (hl : us.length = n)
    (hn : (assignEach es X.env).length = n := by rfl) (hst : (assignEach es X.env).findIdx? (·.1) = none := by rfl) : PGD X B (.Tuple es k pos) ws (tgT us) :=
  pg_wk (gx_tup hK hc h hl hn hst) fun v σ H Q ⟨F, ρ, d, ρ', S, r, e, kk⟩ => ⟨F, ρ, d, ρ', S, .rep r, e, kk⟩
/-- a, b, .. = e -/
def sUnp (us : List Tg) (a : Ev) : Sv := fun ρ => (a ρ).bdS fun r ρ1 => match look ρ1 r with
  | some d => match tgT us d ρ1 with
    | some ρ2 => .nx ρ2
    | none => .bad
  | none => .bad
theorem s_unp {us : List Tg} {ws : List Nat} {tg : Expr} (ha : PED X B W x a) (hg : PG X tg (tGX B ws us)) (hs : swapsWithSole [tg] x pos.line X.env = pure false := by rfl) (hw : swappedStores [tg] x X.env = pure none := by rfl)
    (h1 : (assignEach [tg] X.env).map (·.2) = [assign tg X.env] := by rfl) : PSD X B W (.Assign [tg] x pos) (sUnp us a) :=
  ps_wk (ps_asg ha hg hs hw h1) fun D σ H ⟨F, ρ, S, h⟩ => bdS_ok S h fun r ρ1 F1 H1 x e1 S1 R1 h1 => by
    cases l : look ρ1 r with
    | none => simp only [l] at h1; exact h1.elim
    | some d =>
      simp only [l] at h1
      cases e : tgT us d ρ1 with
      | none => simp only [e] at h1; exact h1.elim
      | some ρ2 =>
        simp only [e] at h1
        exact ⟨F1, ρ1, d, ρ2, S1, R1.rd S1 l, e, fun σ' _ S' => h1 F1 σ' H1 (Ex.refl _) S'⟩

/-! ### x op= e -/
def sAug (i : Nat) (f : D → D → Option Res) (a : Ev) : Sv := fun ρ => match ρ[i]? with
  | some (.v d0) => (a ρ).bdS fun r ρ1 => match look ρ1 r with
    | some d1 => match f d0 d1 with
      | some (.v d2) => .nx (ρ1.set i (.v d2))
      | _ => .bad
    | none => .bad
  | _ => .bad
theorem s_aug {i : Nat} {nm : Str} {op : Operator} {r : R2} {f : D → D → Option Res} {pos' : Pos} (ho : OpR X (inplaceOp op) r) (hf : OpD B.c r f) (hN : X.N.Nodup) (hi : X.N[i]? = some nm) (hx : Loc X.env.scope nm) (ha : PED X B W x a)
    (hfn : X.fn nm = true ∨ X.env.scope.names.lookup nm = some .local := by first | exact .inl rfl | exact .inr rfl | assumption) : PSD X B W (.AugAssign (.Name nm pos') op x pos) (sAug i f a) :=
  ps_wk (ps_aug hN hi hx ha ho hfn) fun D σ H ⟨F, ρ, S, h⟩ => by
    unfold sAug at h
    cases e : ρ[i]? with
    | none => simp only [e] at h; exact h.elim
    | some s =>
      have hl : i < σ.length := by rw [S.len]; exact get_lt e
      have q := S.sl i s _ e (List.getElem?_eq_getElem hl)
      cases s with
      | u => simp only [e] at h; exact h.elim
      | o _ => simp only [e] at h; exact h.elim
      | b _ => simp only [e] at h; exact h.elim
      | e _ => simp only [e] at h; exact h.elim
      | v d0 =>
        simp only [e] at h
        obtain ⟨v, e1, r0⟩ := q
        refine ⟨v, by rw [List.getElem?_eq_getElem hl, e1], bdS_ok S h fun r1 ρ1 F1 H1 y e1 S1 R1 h1 => ?_⟩
        cases l : look ρ1 r1 with
        | none => simp only [l] at h1; exact h1.elim
        | some d1 =>
          simp only [l] at h1
          cases e3 : f d0 d1 with
          | none => simp only [e3] at h1; exact h1.elim
          | some res =>
            simp only [e3] at h1
            cases res with
            | s _ => exact h1.elim
            | f _ => exact h1.elim
            | v d2 =>
              obtain ⟨_, kk⟩ := hf F1 H1 d0 d1 v y (.v d2) _ S1.ex (.rep (r0.ex e1)) (R1.rd S1 l) e3
              refine kk fun F' H' z g q => ?_
              exact h1 F' _ H' g.f ((S1.grow g).setV i q)
end
end Pd
end
section
set_option Elab.async false
set_option linter.all false
set_option maxRecDepth 100000
set_option maxHeartbeats 4000000
namespace Pd
open PySem L2

/-! ### while -/
def whileF (t : EvT) (b : Sv) : Nat → Env → SOut
  | 0, _ => .bad
  | n + 1, ρ => (t ρ).bdS fun k ρ1 => match k with
    | false => .nx ρ1
    | true => match b ρ1 with
      | .nx ρ2 => whileF t b n ρ2
      | .ct ρ2 => whileF t b n ρ2
      | .bk ρ2 => .nx ρ2
      | o => o
theorem whileF_up {t : EvT} {b : Sv} : ∀ {n m : Nat} {ρ : Env}, n ≤ m → whileF t b n ρ ≠ .bad → whileF t b m ρ = whileF t b n ρ
  | 0, _, _, _, h => absurd rfl h
  | n + 1, 0, _, h, _ => absurd h (by omega)
  | n + 1, m + 1, ρ, hle, h => by
    rw [whileF] at h ⊢
    rw [whileF]
    cases e : t ρ with
    | ok k ρ1 =>
      rw [e] at h
      simp only [OutT.bdS] at h ⊢
      cases k with
      | false => rfl
      | true =>
        simp only at h ⊢
        cases e2 : b ρ1 with
        | nx ρ2 => rw [e2] at h; exact whileF_up (by omega) h
        | ct ρ2 => rw [e2] at h; exact whileF_up (by omega) h
        | bk ρ2 => rfl
        | rt _ _ => rfl
        | ex _ _ => rfl
        | bad => rfl
    | ex _ _ => rfl
    | bad => rfl
open Classical in
/-- as long as it takes -/
noncomputable def sWhile (t : EvT) (b : Sv) : Sv := fun ρ => if h : ∃ n, whileF t b n ρ ≠ .bad then whileF t b h.choose ρ else .bad
theorem sWhile_of {t : EvT} {b : Sv} {n : Nat} {ρ : Env} {o : SOut} (h : whileF t b n ρ = o) (hb : o ≠ .bad) : sWhile t b ρ = o := by
  have he : ∃ n, whileF t b n ρ ≠ .bad := ⟨n, by rw [h]; exact hb⟩
  unfold sWhile
  rw [dif_pos he]
  have h1 := he.choose_spec
  rcases Nat.le_total n he.choose with k | k
  · rw [whileF_up k (by rw [h]; exact hb), h]
  · rw [← h, whileF_up k h1]
/-- one turn -/
theorem sWhile_step {t : EvT} {b : Sv} {ρ : Env} : sWhile t b ρ = (t ρ).bdS fun k ρ1 => match k with
    | false => .nx ρ1
    | true => match b ρ1 with
      | .nx ρ2 => sWhile t b ρ2
      | .ct ρ2 => sWhile t b ρ2
      | .bk ρ2 => .nx ρ2
      | o => o := by
  by_cases he : ∃ n, whileF t b n ρ ≠ .bad
  · obtain ⟨n, hn⟩ := he
    have e0 := sWhile_of (o := whileF t b n ρ) rfl hn
    rw [e0]
    cases n with
    | zero => exact absurd rfl hn
    | succ n =>
      rw [whileF] at hn ⊢
      cases e : t ρ with
      | ok k ρ1 =>
        rw [e] at hn
        simp only [OutT.bdS] at hn ⊢
        cases k with
        | false => rfl
        | true =>
          simp only at hn ⊢
          cases e2 : b ρ1 with
          | nx ρ2 => rw [e2] at hn; exact (sWhile_of rfl hn).symm
          | ct ρ2 => rw [e2] at hn; exact (sWhile_of rfl hn).symm
          | bk ρ2 => rfl
          | rt _ _ => rfl
          | ex _ _ => rfl
          | bad => rfl
      | ex _ _ => rfl
      | bad => rfl
  · have e0 : sWhile t b ρ = .bad := by unfold sWhile; rw [dif_neg he]
    rw [e0]
    have all : ∀ n, whileF t b n ρ = .bad := fun n => by
      by_cases h : whileF t b n ρ = .bad
      · exact h
      · exact absurd ⟨n, h⟩ he
    have h1 := all 1
    rw [whileF] at h1
    cases e : t ρ with
    | ok k ρ1 =>
      rw [e] at h1
      simp only [OutT.bdS] at h1 ⊢
      cases k with
      | false => exact h1.symm
      | true =>
        simp only at h1 ⊢
        have sub : ∀ ρ2, (b ρ1 = .nx ρ2 ∨ b ρ1 = .ct ρ2) → sWhile t b ρ2 = .bad := fun ρ2 h2 => by
          unfold sWhile
          refine dif_neg fun ⟨n, hn⟩ => hn ?_
          have h3 := all (n + 1)
          rw [whileF, e] at h3
          simp only [OutT.bdS] at h3
          rcases h2 with h2 | h2 <;> rw [h2] at h3 <;> exact h3
        cases e2 : b ρ1 with
        | nx ρ2 => exact (sub ρ2 (.inl e2)).symm
        | ct ρ2 => exact (sub ρ2 (.inr e2)).symm
        | bk ρ2 => rw [e2] at h1; exact h1.symm
        | rt _ _ => rw [e2] at h1; exact h1.symm
        | ex _ _ => rw [e2] at h1; exact h1.symm
        | bad => rfl
    | ex _ _ => rw [e] at h1; exact h1.symm
    | bad => rfl
section
variable {X : Cx} {B : Bs} {W : WX} {x y z : Expr} {st : Stmt} {rest : List Stmt} {a b d : Ev} {s t : Sv} {pos : Pos} {D' : Ends} {σ : L2.St} {H F : Hp} {ρ : Env}
theorem whileF_ok {k : EvT} (h : tS B W (sWhile k s) D' σ H) : tWhile (tT B W k) (tS B W s) D' σ H := by
  obtain ⟨F, ρ, S, h⟩ := h
  have he : ∃ n, whileF k s n ρ ≠ .bad := by
    by_cases he : ∃ n, whileF k s n ρ ≠ .bad
    · exact he
    · unfold sWhile at h
      rw [dif_neg he] at h
      exact h.elim
  obtain ⟨n, hn⟩ := he
  rw [sWhile_of (n := n) rfl hn] at h
  refine ⟨fun m σ H => ∃ F ρ, St B F σ H ρ ∧ SOk B W F D' (whileF k s m ρ), ⟨n, F, ρ, S, h⟩, ?_⟩
  rintro m σ H ⟨F, ρ, S, h⟩
  cases m with
  | zero => exact h.elim
  | succ m =>
    refine tbdS_ok S h fun r ρ1 F1 H1 e1 S1 h1 => ?_
    cases r with
    | false => rw [if_neg Bool.false_ne_true]; exact h1 F1 σ H1 (Ex.refl _) S1
    | true =>
      rw [if_pos rfl]
      refine ⟨fun σ' H' => ∃ F ρ, St B F σ' H' ρ ∧ SOk B W F D' (whileF k s m ρ), fun σ' H' h => ⟨m, Nat.lt_succ_self m, h⟩, F1, ρ1, S1, ?_⟩
      simp only at h1
      cases e : s ρ1 with
      | nx ρ2 => rw [e] at h1; exact fun F' σ' H' e' S' => ⟨F', ρ2, S', SOk.mono e' h1⟩
      | ct ρ2 => rw [e] at h1; exact fun F' σ' H' e' S' => ⟨F', ρ2, S', SOk.mono e' h1⟩
      | bk ρ2 => rw [e] at h1; exact h1
      | rt _ _ => rw [e] at h1; exact h1
      | ex _ _ => rw [e] at h1; exact h1
      | bad => rw [e] at h1; exact h1
theorem s_while {c : Expr} {k : EvT} {l : List Stmt} (hp : PassesOwn (model X.prog X.w) X.A X.env X.xe) (hc : PTD X B W c k) (h1 : PSsD X B W l s) : PSD X B W (.While c l [] pos) (sWhile k s) :=
  ps_wk (ps_while hp hc h1) fun D σ H h => whileF_ok h
end

/-! ### what is walked -/
inductive OutI where
  | ok (ds : List D) (ρ : Env) | ex (c : String) (ρ : Env) | bad
abbrev EvI := Env → OutI
def Out.bdI : Out → (Res → Env → OutI) → OutI
  | .ok r ρ, k => k r ρ
  | .ex c ρ, _ => .ex c ρ
  | .bad, _ => .bad
def OutA.bdI : OutA → (List Res → Env → OutI) → OutI
  | .ok r ρ, k => k r ρ
  | .ex c ρ, _ => .ex c ρ
  | .bad, _ => .bad
def OutI.bdS : OutI → (List D → Env → SOut) → SOut
  | .ok r ρ, k => k r ρ
  | .ex c ρ, _ => .ex c ρ
  | .bad, _ => .bad
def OutI.bdE : OutI → (List D → Env → Out) → Out
  | .ok r ρ, k => k r ρ
  | .ex c ρ, _ => .ex c ρ
  | .bad, _ => .bad
/-- J walks ds, whatever grows -/
def ItOk (c : Ct) (F : Hp) (J : It) (ds : List D) : Prop := ∀ F' H', Ex F F' → Ex F' H' → ∀ k,
  (∀ d, ds[k]? = some d → J.go k H' ∧ ∀ x H'', J.yld k H' x H'' → ∃ F'', Grow F' H' F'' H'' ∧ Rep c F'' d x) ∧ (ds.length ≤ k → J.stop k H')
def OutIOk (B : Bs) (W : WX) (F : Hp) (σ : L2.St) (R : It → Hp → Prop) : OutI → Prop
  | .ok ds ρ' => ∀ F' H' J, Ex F F' → St B F' σ H' ρ' → ItOk B.c F' J ds → R J H'
  | .ex c ρ' => ∀ F' H', Ex F F' → St B F' σ H' ρ' → W (.ref (B.ec c)) none σ H'
  | .bad => False
def tI (B : Bs) (W : WX) (i : EvI) : TI := fun σ H R => ∃ F ρ, St B F σ H ρ ∧ OutIOk B W F σ R (i ρ)
abbrev PID (X : Cx) (B : Bs) (W : WX) (tg : Expr) (e : Expr) (i : EvI) : Prop := PI X tg e (tI B W i)
theorem pi_wk {X : Cx} {tg e : Expr} {t t' : TI} (h : PI X tg e t) (k : ∀ σ H Q, t' σ H Q → t σ H Q) : PI X tg e t' := ⟨fun pins s σ H Q I q => h.run pins s σ H Q I (k σ H Q q)⟩
theorem pi_or {X : Cx} {tg e : Expr} {t u : TI} (h : PI X tg e t) (h' : PI X tg e u) : PI X tg e (fun σ H R => t σ H R ∨ u σ H R) := ⟨fun pins s σ H R I q => by
  rcases q with q | q
  · exact h.run pins s σ H R I q
  · exact h'.run pins s σ H R I q⟩
section
variable {B : Bs} {W : WX} {F F1 H : Hp} {σ : L2.St} {ρ : Env} {R : It → Hp → Prop}
theorem OutIOk.mono {o : OutI} (e : Ex F F1) (h : OutIOk B W F σ R o) : OutIOk B W F1 σ R o := by
  cases o with
  | ok r ρ' => exact fun F' H' x e' => h F' H' x (e.trans e')
  | ex c ρ' => exact fun F' H' e' => h F' H' (e.trans e')
  | bad => exact h
theorem bdI_ok {a : Ev} {k : Res → Env → OutI} {Q : VK} (S : St B F σ H ρ) (h : OutIOk B W F σ R ((a ρ).bdI k))
    (step : ∀ r ρ1 F1 H1 x, Ex F F1 → St B F1 σ H1 ρ1 → ResOk B F1 σ H1 ρ1 r x → OutIOk B W F1 σ R (k r ρ1) → Q x H1) : tE B W a σ H Q := by
  refine ⟨F, ρ, S, ?_⟩
  cases e : a ρ with
  | ok r ρ1 => rw [e] at h; exact fun F1 H1 x e1 S1 R1 => step r ρ1 F1 H1 x e1 S1 R1 (OutIOk.mono e1 h)
  | ex c ρ1 => rw [e] at h; exact h
  | bad => rw [e] at h; exact h
theorem abdI_ok {a : EvA} {k : List Res → Env → OutI} {Q : List V → Hp → Prop} (S : St B F σ H ρ) (h : OutIOk B W F σ R ((a ρ).bdI k))
    (step : ∀ r ρ1 F1 H1 x, Ex F F1 → St B F1 σ H1 ρ1 → RessOk B F1 σ H1 ρ1 r x → OutIOk B W F1 σ R (k r ρ1) → Q x H1) : tA B W a σ H Q := by
  refine ⟨F, ρ, S, ?_⟩
  cases e : a ρ with
  | ok r ρ1 => rw [e] at h; exact fun F1 H1 x e1 S1 R1 => step r ρ1 F1 H1 x e1 S1 R1 (OutIOk.mono e1 h)
  | ex c ρ1 => rw [e] at h; exact h
  | bad => rw [e] at h; exact h
theorem ibdS_ok {a : EvI} {k : List D → Env → SOut} {E : Ends} (S : St B F σ H ρ) (h : SOk B W F E ((a ρ).bdS k))
    (step : ∀ ds ρ1 F1 H1 J, Ex F F1 → St B F1 σ H1 ρ1 → ItOk B.c F1 J ds → SOk B W F1 E (k ds ρ1) → R J H1) : tI B W a σ H R := by
  refine ⟨F, ρ, S, ?_⟩
  cases e : a ρ with
  | ok r ρ1 => rw [e] at h; exact fun F1 H1 x e1 S1 R1 => step r ρ1 F1 H1 x e1 S1 R1 (SOk.mono e1 h)
  | ex c ρ1 => rw [e] at h; exact fun F' H' e' S' => h F' σ H' e' S'
  | bad => rw [e] at h; exact h
theorem ibdE_ok {a : EvI} {k : List D → Env → Out} {Q : VK} (S : St B F σ H ρ) (h : OutOk B W F σ Q ((a ρ).bdE k))
    (step : ∀ ds ρ1 F1 H1 J, Ex F F1 → St B F1 σ H1 ρ1 → ItOk B.c F1 J ds → OutOk B W F1 σ Q (k ds ρ1) → R J H1) : tI B W a σ H R := by
  refine ⟨F, ρ, S, ?_⟩
  cases e : a ρ with
  | ok r ρ1 => rw [e] at h; exact fun F1 H1 x e1 S1 R1 => step r ρ1 F1 H1 x e1 S1 R1 (OutOk.mono e1 h)
  | ex c ρ1 => rw [e] at h; exact h
  | bad => rw [e] at h; exact h
end
/-- the signs of a text -/
def signs (s : Str) : List D := s.cps.toList.map fun c => PyData.str ⟨#[c]⟩
def iSeq (a : Ev) : EvI := fun ρ => (a ρ).bdI fun r ρ1 => match frzR ρ1 r with
  | some (.list ds, ρ2) => .ok ds ρ2
  | some (.tuple ds, ρ2) => .ok ds ρ2
  | some (.str s, ρ2) => .ok (signs s) ρ2
  | some (d, ρ2) => match scrOf d with
    | some ds => .ok ds ρ2
    | none => .bad
  | none => .bad
def rngD (lo : Int) (n : Nat) : List D := (List.range n).map fun (k : Nat) => PyData.int (lo + (k : Int))
noncomputable def rngOk (j : Int) : Bool := yes (-(2 ^ 62) ≤ j ∧ j < 2 ^ 62)
section
variable {X : Cx} {B : Bs} {W : WX} {x y z : Expr} {st : Stmt} {rest : List Stmt} {a b d : Ev} {s t : Sv} {pos p : Pos} {D' : Ends} {σ : L2.St} {H F : Hp} {ρ : Env} {tg : Expr} {ta : EvA}
theorem itOk_list {c : Ct} {K : Frag} {F : Hp} {q : Addr} {ds : List D} {vs : List V} (r : Rd F q (.lst vs)) (rs : Reps c F ds vs) : ItOk c F (Itl K q) ds := by
  intro F' H' e1 e2 k
  have r' : Rd H' q (.lst vs) := e2.rd _ _ (e1.rd _ _ r)
  refine ⟨fun d hd => ?_, fun hk => ⟨vs, .inl r', by rw [rs.length]; exact hk⟩⟩
  obtain ⟨v, hv, rv⟩ := rs.getD hd
  refine ⟨⟨vs, v, .inl r', hv⟩, fun x H'' h => ?_⟩
  obtain ⟨rfl, h⟩ := h
  have := h vs (.inl r')
  rw [hv] at this
  cases this
  exact ⟨F', Grow.refl e2, rv.ex e1⟩
theorem itOk_sq {c : Ct} {F : Hp} {q : Addr} {ds : List D} {vs : List V} (r : SqL c.K F q vs) (rs : Reps c F ds vs) : ItOk c F (Itl c.K q) ds := by
  intro F' H' e1 e2 k
  have r' : SqL c.K H' q vs := exL (e1.trans e2) r
  refine ⟨fun d hd => ?_, fun hk => ⟨vs, r', by rw [rs.length]; exact hk⟩⟩
  obtain ⟨v, hv, rv⟩ := rs.getD hd
  refine ⟨⟨vs, v, r', hv⟩, fun x H'' h => ?_⟩
  obtain ⟨rfl, h⟩ := h
  have := h vs r'
  rw [hv] at this
  cases this
  exact ⟨F', Grow.refl e2, rv.ex e1⟩
theorem itOk_tup {c : Ct} {F : Hp} {q : Addr} {ds : List D} {vs : List V} (r : TupAt c F q vs) (rs : Reps c F ds vs) : ItOk c F (Itt c.K q) ds := by
  intro F' H' e1 e2 k
  have r' : SqT c.K H' q vs := (r.ex (e1.trans e2)).sq
  refine ⟨fun d hd => ?_, fun hk => ⟨vs, r', by rw [rs.length]; exact hk⟩⟩
  obtain ⟨v, hv, rv⟩ := rs.getD hd
  refine ⟨⟨vs, v, r', hv⟩, fun x H'' h => ?_⟩
  obtain ⟨rfl, h⟩ := h
  have := h vs r'
  rw [hv] at this
  cases this
  exact ⟨F', Grow.refl e2, rv.ex e1⟩
theorem itOk_str {c : Ct} {F : Hp} {u : Str} : ItOk c F (Its u) (signs u) := by
  intro F' H' e1 e2 k
  refine ⟨fun d hd => ?_, fun hk => show u.cps.size ≤ k by simpa [signs] using hk⟩
  simp only [signs, List.getElem?_map, Option.map_eq_some_iff] at hd
  obtain ⟨ch, h1, rfl⟩ := hd
  have hk : k < u.cps.size := by simpa using get_lt h1
  refine ⟨hk, fun x H'' h => ?_⟩
  obtain ⟨rfl, c', h2, rfl⟩ := h
  have : c' = ch := by
    rw [Array.getElem?_toList] at h1
    rw [h1] at h2
    exact (Option.some.inj h2).symm
  subst this
  exact ⟨F', Grow.refl e2, .str _⟩
theorem itOk_rng {c : Ct} {F : Hp} {lo : Int} {n : Nat} : ItOk c F (Itr lo n) (rngD lo n) := by
  intro F' H' e1 e2 k
  refine ⟨fun d hd => ?_, fun hk => show n ≤ k by simpa [rngD] using hk⟩
  simp only [rngD, List.getElem?_map, Option.map_eq_some_iff] at hd
  obtain ⟨j, h1, rfl⟩ := hd
  have hk := get_lt h1
  rw [List.length_range] at hk
  rw [List.getElem?_range hk] at h1
  cases h1
  refine ⟨hk, fun x H'' h => ?_⟩
  obtain ⟨rfl, rfl⟩ := h
  exact ⟨F', Grow.refl e2, .int _⟩
theorem itOk_rngC {c : Ct} {F : Hp} {lo st : Int} {n : Nat} : ItOk c F (Itc lo st n) ((List.range n).map fun (k : Nat) => PyData.int (lo + (k : Int) * st)) := by
  intro F' H' e1 e2 k
  refine ⟨fun d hd => ?_, fun hk => show n ≤ k by simpa using hk⟩
  simp only [List.getElem?_map, Option.map_eq_some_iff] at hd
  obtain ⟨j, h1, rfl⟩ := hd
  have hk := get_lt h1
  rw [List.length_range] at hk
  rw [List.getElem?_range hk] at h1
  cases h1
  refine ⟨hk, fun x H'' h => ?_⟩
  obtain ⟨rfl, rfl⟩ := h
  exact ⟨F', Grow.refl e2, .int _⟩
theorem Rep.listI {c : Ct} {F : Hp} {ds : List D} {x : V} (h : Rep c F (.list ds) x) : ∃ q vs, x = .ref q ∧ Rd F q (.lst vs) ∧ Reps c F ds vs := by
  cases h with | lst h r => exact ⟨_, _, rfl, .inl h, r⟩
theorem Rep.tupI {c : Ct} {F : Hp} {ds : List D} {x : V} (h : Rep c F (.tuple ds) x) : ∃ q vs, x = .ref q ∧ TupAt c F q vs ∧ Reps c F ds vs := by
  cases h with | tup h r => exact ⟨_, _, rfl, h, r⟩
theorem i_seq (hK : B.c.K = X.K) (ha : PED X B W x a) : PID X B W tg x (iSeq a) :=
  pi_wk (pi_or (pi_list ha) (pi_or (pi_tup ha) (pi_str ha))) fun σ H R ⟨F, ρ, S, h⟩ => by
    unfold iSeq at h
    cases e : a ρ with
    | ex c ρ1 => rw [e] at h; exact .inl ⟨F, ρ, S, by rw [e]; exact h⟩
    | bad => rw [e] at h; exact h.elim
    | ok r ρ1 =>
      cases e2 : frzR ρ1 r with
      | none => rw [e] at h; simp only [Out.bdI, e2] at h; exact h.elim
      | some q =>
        obtain ⟨d, ρ2⟩ := q
        have go : ∀ {Q : VK}, (∀ F2 H2 v, Ex F F2 → St B F2 σ H2 ρ2 → Rep B.c F2 d v → Q v H2) → tE B W a σ H Q := fun {Q} hq => ⟨F, ρ, S, by
          rw [e]
          intro F1 H1 v e1 S1 R1
          obtain ⟨F2, x2, S2, q2⟩ := frzR_ok S1 R1 e2
          exact hq F2 H1 v (e1.trans x2) S2 q2⟩
        rw [e] at h
        simp only [Out.bdI, e2] at h
        cases d with
        | list ds =>
          refine .inl (go fun F2 H2 v e3 S2 r2 => ?_)
          obtain ⟨q, vs, rfl, r, rs⟩ := r2.listI
          exact ⟨q, rfl, ⟨vs, .inl (S2.ex.rd _ _ r)⟩, h F2 H2 _ e3 S2 (itOk_list r rs)⟩
        | tuple ds =>
          refine .inr (.inl (go fun F2 H2 v e3 S2 r2 => ?_))
          obtain ⟨q, vs, rfl, r, rs⟩ := r2.tupI
          rw [← hK]
          exact ⟨q, rfl, ⟨vs, (r.ex S2.ex).sq⟩, h F2 H2 _ e3 S2 (itOk_tup r rs)⟩
        | str u =>
          refine .inr (.inr (go fun F2 H2 v e3 S2 r2 => ?_))
          cases r2
          exact ⟨u, rfl, h F2 H2 _ e3 S2 itOk_str⟩
        | dict ps =>
          simp only at h
          cases es : scrOf (.dict ps) with
          | none => rw [es] at h; exact h.elim
          | some ds =>
            rw [es] at h
            refine .inl (go fun F2 H2 v e3 S2 r2 => ?_)
            rw [scrOf_eq es] at r2
            cases r2 with
            | scr r rs =>
              rw [← hK]
              exact ⟨_, rfl, ⟨_, exL S2.ex r⟩, h F2 H2 _ e3 S2 (itOk_sq r rs)⟩
        | none => simp only [scrOf] at h; exact h.elim
        | bool _ => simp only [scrOf] at h; exact h.elim
        | int _ => simp only [scrOf] at h; exact h.elim
theorem rng_ok {j : Int} (h : rngOk j = true) : -(2 ^ 62) ≤ j ∧ j < 2 ^ 62 := by
  exact yes_iff.mp h
theorem RdXs.three {c : Ct} {d e f : D} {xs : List V} (h : RdXs c F H [d, e, f] xs) : ∃ x y z, xs = [x, y, z] ∧ RdX c F H d x ∧ RdX c F H e y ∧ RdX c F H f z := by
  cases h with | cons h t => cases t with | cons h' t => cases t with | cons h2 t => cases t; exact ⟨_, _, _, rfl, h, h', h2⟩
noncomputable def rng1 : List D → Option (List D)
  | [.int j] => if rngOk j then some (rngD 0 j.toNat) else none
  | _ => none
noncomputable def rng2 : List D → Option (List D)
  | [.int i, .int j] => if rngOk i && rngOk j then some (rngD i (j - i).toNat) else none
  | _ => none
/-- a range that goes down by one -/
noncomputable def rng3 : List D → Option (List D)
  | [.int i, .int j, .int c] => if c = -1 && (rngOk i && rngOk j) then some ((List.range (i - j).toNat).map fun (k : Nat) => PyData.int (i + (k : Int) * (-1))) else none
  | _ => none
def iRange (f : List D → Option (List D)) (t : EvA) : EvI := fun ρ => (t ρ).bdI fun rs ρ1 => match looks ρ1 rs with
  | some ds => match f ds with
    | some es => .ok es ρ1
    | none => .bad
  | none => .bad
theorem range_ok {f : List D → Option (List D)} {Q : List V → Hp → Prop} {R : It → Hp → Prop} (S : St B F σ H ρ) (h : OutIOk B W F σ R (iRange f ta ρ)) (k : ∀ ds xs es F1 H1 , RdXs B.c F1 H1 ds xs → f ds = some es → (∀ J, ItOk B.c F1 J es → R J H1) → Q xs H1) : tA B W ta σ H Q :=
  abdI_ok S h fun rs ρ1 F1 H1 xs e1 S1 R1 h1 => by
    cases e : looks ρ1 rs with
    | none => simp only [e] at h1; exact h1.elim
    | some ds =>
      simp only [e] at h1
      cases e2 : f ds with
      | none => simp only [e2] at h1; exact h1.elim
      | some es =>
        simp only [e2] at h1
        exact k ds xs es F1 H1 (looks_ok S1 R1 e) e2 fun J hJ => h1 F1 H1 J (Ex.refl _) S1 hJ
theorem i_range1 (hg : Gl X "range") (hm : X.mg "range" = none) (ha : PAD X B W [x] ta) (hs : starEach [x] X.env = [(false, eval x X.env)] := by rfl) : PID X B W tg (.Call (.Name "range" p) [x] [] pos) (iRange rng1 ta) :=
  pi_wk (pi_range1 hg hm ha hs) fun σ H R ⟨F, ρ, S, h⟩ => range_ok S h fun ds xs es F1 H1 r1 e2 k => by
    match ds, r1, e2 with
    | [.int j], r1, e2 =>
      simp only [rng1] at e2
      split at e2
      · rename_i hj
        cases e2
        obtain ⟨x, rfl, g⟩ := r1.one
        exact ⟨j, by rw [g.int], (rng_ok hj).1, (rng_ok hj).2, k _ itOk_rng⟩
      · cases e2
theorem i_range2 (hg : Gl X "range") (hm : X.mg "range" = none) (ha : PAD X B W [x, y] ta) (hs : starEach [x, y] X.env = [(false, eval x X.env), (false, eval y X.env)] := by rfl) (hs2 : starEach [y] X.env = [(false, eval y X.env)] := by rfl) : PID X B W tg (.Call (.Name "range" p) [x, y] [] pos) (iRange rng2 ta) :=
  pi_wk (pi_range2 hg hm ha hs hs2) fun σ H R ⟨F, ρ, S, h⟩ => range_ok S h fun ds xs es F1 H1 r1 e2 k => by
    match ds, r1, e2 with
    | [.int i, .int j], r1, e2 =>
      simp only [rng2] at e2
      split at e2
      · rename_i hj
        rw [Bool.and_eq_true] at hj
        cases e2
        obtain ⟨x, y, rfl, g, g'⟩ := r1.two
        exact ⟨i, j, by rw [g.int, g'.int], ⟨(rng_ok hj.1).1, (rng_ok hj.1).2, (rng_ok hj.2).1, (rng_ok hj.2).2⟩, k _ itOk_rng⟩
      · cases e2
theorem i_range3 (hg : Gl X "range") (hm : X.mg "range" = none) (ha : PAD X B W [x, y, z] ta) (hs : starEach [x, y, z] X.env = (false, eval x X.env) :: starEach [y, z] X.env := by rfl) (hpl : (backTo pos (starEach [y, z] X.env)).any (·.1) = false := by rfl) : PID X B W tg (.Call (.Name "range" p) [x, y, z] [] pos) (iRange rng3 ta) :=
  pi_wk (pi_range3 hg hm ha hs hpl) fun σ H R ⟨F, ρ, S, h⟩ => range_ok S h fun ds xs es F1 H1 r1 e2 k => by
    match ds, r1, e2 with
    | [.int i, .int j, .int c], r1, e2 =>
      simp only [rng3] at e2
      split at e2
      · rename_i hj
        rw [Bool.and_eq_true, Bool.and_eq_true, decide_eq_true_eq] at hj
        cases e2
        obtain ⟨hc, h1, h2⟩ := hj
        obtain ⟨x, y, z, rfl, g, g', g2⟩ := r1.three
        subst hc
        exact ⟨i, j, -1, (i - j).toNat, by rw [g.int, g'.int, g2.int], RgC.neg (rng_ok h1).1 (rng_ok h1).2 (rng_ok h2).1 (rng_ok h2).2, k _ itOk_rngC⟩
      · cases e2
/-- enumerate(list), zip(list, list) -/
def enumD (ds : List D) : List D := ds.zipIdx.map fun q => PyData.tuple [.int (q.2 : Nat), q.1]
def zipD (ds es : List D) : List D := (ds.zip es).map fun q => PyData.tuple [q.1, q.2]
def iEnumD (t : EvA) : EvI := fun ρ => (t ρ).bdI fun rs ρ1 => match frzs ρ1 rs with
  | some ([.list ds], ρ2) => .ok (enumD ds) ρ2
  | _ => .bad
def iZipD (t : EvA) : EvI := fun ρ => (t ρ).bdI fun rs ρ1 => match frzs ρ1 rs with
  | some ([.list ds, .list es], ρ2) => .ok (zipD ds es) ρ2
  | _ => .bad
theorem itOk_enum {c : Ct} {K : Frag} {F : Hp} {q : Addr} {ds : List D} {vs : List V} (r : Rd F q (.lst vs)) (rs : Reps c F ds vs) : ItOk c F (Ite K q) (enumD ds) := by
  intro F' H' e1 e2 k
  have r' : Rd H' q (.lst vs) := e2.rd _ _ (e1.rd _ _ r)
  refine ⟨fun d hd => ?_, fun hk => ⟨vs, .inl r', by rw [rs.length]; simpa [enumD] using hk⟩⟩
  simp only [enumD, List.getElem?_map, Option.map_eq_some_iff, List.getElem?_zipIdx] at hd
  obtain ⟨w, ⟨d', hd', rfl⟩, rfl⟩ := hd
  obtain ⟨v, hv, rv⟩ := rs.getD hd'
  refine ⟨⟨vs, v, .inl r', hv⟩, fun x H'' h => ?_⟩
  obtain ⟨T, x', rfl, hT, rfl, h⟩ := h
  have := h vs (.inl r')
  rw [hv] at this
  cases this
  refine ⟨_, Grow.obj e2 hT, .tup (.inl upd_same) ?_⟩
  have f := Ex.new (o := .tup [.int (k : Nat), v]) (e2.free hT)
  rw [Nat.zero_add]
  exact .cons (.int _) (.cons ((rv.ex e1).ex f) .nil)
theorem itOk_zip {c : Ct} {K : Frag} {F : Hp} {q q' : Addr} {ds es : List D} {vs ws : List V} (r : Rd F q (.lst vs)) (rs : Reps c F ds vs) (s : Rd F q' (.lst ws)) (ss : Reps c F es ws) : ItOk c F (Itz K q q') (zipD ds es) := by
  intro F' H' e1 e2 k
  have r' : Rd H' q (.lst vs) := e2.rd _ _ (e1.rd _ _ r)
  have s' : Rd H' q' (.lst ws) := e2.rd _ _ (e1.rd _ _ s)
  refine ⟨fun d hd => ?_, fun hk => ⟨vs, ws, .inl r', .inl s', by rw [rs.length, ss.length]; simp [zipD] at hk; omega⟩⟩
  simp only [zipD, List.getElem?_map, Option.map_eq_some_iff] at hd
  obtain ⟨⟨d1, d2⟩, hz, rfl⟩ := hd
  rw [List.getElem?_zip_eq_some] at hz
  obtain ⟨v, hv, rv⟩ := rs.getD hz.1
  obtain ⟨w, hw, rw'⟩ := ss.getD hz.2
  refine ⟨⟨vs, ws, v, w, .inl r', .inl s', hv, hw⟩, fun x H'' h => ?_⟩
  obtain ⟨T, x', y', rfl, hT, rfl, h, h'⟩ := h
  have e3 := h vs (.inl r')
  rw [hv] at e3
  cases e3
  have e3 := h' ws (.inl s')
  rw [hw] at e3
  cases e3
  have f := Ex.new (o := .tup [v, w]) (e2.free hT)
  exact ⟨_, Grow.obj e2 hT, .tup (.inl upd_same) (.cons ((rv.ex e1).ex f) (.cons ((rw'.ex e1).ex f) .nil))⟩
theorem i_enum {elts : List Expr} {kk : Nat} {tpos : Pos} (hg : Gl X "enumerate") (hm : X.mg "enumerate" = none) (ha : PAD X B W [x] ta) (hs : starEach [x] X.env = [(false, eval x X.env)] := by rfl) : PID X B W (.Tuple elts kk tpos) (.Call (.Name "enumerate" p) [x] [] pos) (iEnumD ta) :=
  pi_wk (pi_enum hg hm ha hs) fun σ H R ⟨F, ρ, S, h⟩ => abdI_ok S h fun rs ρ1 F1 H1 xs e1 S1 R1 h1 => by
    split at h1
    · rename_i ds ρ2 e
      obtain ⟨F2, x2, S2, q2⟩ := frzs_ok S1 R1 e
      cases q2 with
      | cons q2 t =>
        cases t
        obtain ⟨a, vs, rfl, r, q⟩ := q2.listI
        exact ⟨a, vs, rfl, .inl (S2.ex.rd _ _ r), h1 F2 H1 _ x2 S2 (itOk_enum r q)⟩
    · exact h1.elim
theorem i_zip {elts : List Expr} {kk : Nat} {tpos : Pos} (hg : Gl X "zip") (hm : X.mg "zip" = none) (ha : PAD X B W [x, y] ta)
    (hs : starEach [x, y] X.env = (false, eval x X.env) :: starEach [y] X.env := by rfl) (hpl : (backTo pos (starEach [y] X.env)).any (·.1) = false := by rfl) : PID X B W (.Tuple elts kk tpos) (.Call (.Name "zip" p) [x, y] [] pos) (iZipD ta) :=
  pi_wk (pi_zip hg hm ha hs hpl) fun σ H R ⟨F, ρ, S, h⟩ => abdI_ok S h fun rs ρ1 F1 H1 xs e1 S1 R1 h1 => by
    split at h1
    · rename_i ds es ρ2 e
      obtain ⟨F2, x2, S2, q2⟩ := frzs_ok S1 R1 e
      cases q2 with
      | cons q2 t =>
        cases t with
        | cons q3 t =>
          cases t
          obtain ⟨a, vs, rfl, r, q⟩ := q2.listI
          obtain ⟨b, ws, rfl, r3, q3⟩ := q3.listI
          exact ⟨a, b, vs, ws, rfl, .inl (S2.ex.rd _ _ r), .inl (S2.ex.rd _ _ r3), h1 F2 H1 _ x2 S2 (itOk_zip r q r3 q3)⟩
    · exact h1.elim

/-! ### for -/
def forF (t : Tg) (b : Sv) : List D → Env → SOut
  | [], ρ => .nx ρ
  | d :: ds, ρ => match t d ρ with
    | some ρ1 => match b ρ1 with
      | .nx ρ2 => forF t b ds ρ2
      | .ct ρ2 => forF t b ds ρ2
      | .bk ρ2 => .nx ρ2
      | o => o
    | none => .bad
def sFor (i : EvI) (t : Tg) (b : Sv) : Sv := fun ρ => (i ρ).bdS fun ds ρ1 => forF t b ds ρ1
theorem drop_at {α : Type} {l : List α} {i : Nat} {d : α} {ds : List α} (h : l.drop i = d :: ds) : l[i]? = some d ∧ l.drop (i + 1) = ds := by
  have a : (l.drop i)[0]? = some d := by rw [h]; rfl
  rw [List.getElem?_drop] at a
  refine ⟨by simpa using a, ?_⟩
  have b : (l.drop i).drop 1 = ds := by rw [h]; rfl
  rw [List.drop_drop] at b
  exact b
theorem for_ok {ws : List Nat} {u : Tg} {J : It} {F0 : Hp} {ds : List D} (hJ : ItOk B.c F0 J ds) (S : St B F0 σ H ρ) (h : SOk B W F0 D' (forF u s ds ρ)) : ∃ W' : Nat → Nat → L2.St → Hp → Prop, (∃ m, W' 0 m σ H) ∧ ∀ i m σ H, W' i m σ H →
      (J.stop i H ∧ D'.nx σ H) ∨ (J.go i H ∧ ∃ N : L2.St → Hp → Prop, (∀ σ' H', N σ' H' → ∃ m', m' < m ∧ W' (i + 1) m' σ' H') ∧ ∀ x H', J.yld i H x H' → tG B ws u x σ H' fun σ2 H2 => tS B W s { D' with nx := N, ct := N, bk := D'.nx } σ2 H2) := by
  refine ⟨fun i m σ H => ∃ F ρ, Ex F0 F ∧ St B F σ H ρ ∧ SOk B W F D' (forF u s (ds.drop i) ρ) ∧ m = (ds.drop i).length, ⟨_, F0, ρ, Ex.refl _, S, h, rfl⟩, ?_⟩
  rintro i m σ H ⟨F, ρ, e0, S, h, rfl⟩
  obtain ⟨go, stop⟩ := hJ F H e0 S.ex i
  cases e : ds.drop i with
  | nil =>
    rw [e] at h
    exact .inl ⟨stop (by simpa using e), h F σ H (Ex.refl _) S⟩
  | cons d es =>
    obtain ⟨e1, e2⟩ := drop_at e
    obtain ⟨go, yl⟩ := go d e1
    rw [e] at h
    rw [forF] at h
    refine .inr ⟨go, fun σ' H' => ∃ F ρ, Ex F0 F ∧ St B F σ' H' ρ ∧ SOk B W F D' (forF u s es ρ), fun σ' H' h => ?_, fun x H' hy => ?_⟩
    · obtain ⟨F, ρ, a, b, c⟩ := h
      exact ⟨es.length, Nat.lt_succ_self _, F, ρ, a, b, by rw [e2]; exact c, by rw [e2]⟩
    · obtain ⟨F1, g, r⟩ := yl x H' hy
      cases e3 : u d ρ with
      | none => rw [e3] at h; exact h.elim
      | some ρ1 =>
        rw [e3] at h
        simp only at h
        refine ⟨F1, ρ, d, ρ1, S.grow g, r, e3, fun σ2 _ S2 => ⟨F1, ρ1, S2, ?_⟩⟩
        have h := h.mono g.f
        have e0' := e0.trans g.f
        cases e4 : s ρ1 with
        | nx ρ2 => rw [e4] at h; exact fun F' σ' H' e' S' => ⟨F', ρ2, e0'.trans e', S', SOk.mono e' h⟩
        | ct ρ2 => rw [e4] at h; exact fun F' σ' H' e' S' => ⟨F', ρ2, e0'.trans e', S', SOk.mono e' h⟩
        | bk ρ2 => rw [e4] at h; exact h
        | rt _ _ => rw [e4] at h; exact h
        | ex _ _ => rw [e4] at h; exact h
        | bad => rw [e4] at h; exact h
theorem s_for {i : EvI} {ws : List Nat} {u : Tg} {l : List Stmt} (hp : PassesOwn (model X.prog X.w) X.A X.env X.xe) (hc : X.calm = true) (hi : PID X B W tg x i) (hg : PGD X B tg ws u) (hb : PSsD X B W l s)
    (hs : ∀ v, foldedSetIterable x X.env v = pure v := by intro _; rfl) : PSD X B W (.For tg x l [] pos) (sFor i u s) :=
  ps_wk (ps_for hp hc hi hg hb hs) fun D σ H ⟨F, ρ, S, h⟩ => ibdS_ok S h fun ds ρ1 F1 H1 J e1 S1 hJ h1 => for_ok hJ S1 h1
end
end Pd
end
section
set_option Elab.async false
set_option linter.all false
set_option maxRecDepth 100000
set_option maxHeartbeats 4000000
namespace Pd
open PySem L2

/-! ### a fresh object is held while something else runs -/
section
variable {B : Bs} {W : WX} {F H : Hp} {σ : L2.St} {ρ : Env} {p : Addr} {o o' : HO}
def Off (σ : L2.St) (ρ : Env) (p : Addr) : Prop := ∀ (i : Nat) (s : Sl), ρ[i]? = some s → s.mine ≠ none → σ[i]? ≠ some (some (.ref p))
theorem St.held (S : St B F σ H ρ) (hp : H p = some o) (hF : F p = none) (h0 : B.H0 p = none) (hs : Off σ ρ p) : St (B.rb (upd B.H0 p o) B.F0) F σ H ρ where
  len := S.len
  ex := S.ex
  sl := fun i s x h1 h2 => by
    have q := S.sl i s x h1 h2
    cases s with
    | u => exact True.intro
    | v d => exact q
    | o d =>
      obtain ⟨a, e1, e2, e3, e4⟩ := q
      subst e1
      have hne : a ≠ p := fun z => hs i _ h1 (by intro z; cases z) (by rw [h2, z])
      exact ⟨a, rfl, e2, by show upd B.H0 p o a = none; rw [upd_ne hne]; exact e3, e4⟩
    | b d => exact q
    | e n => exact q
  sep := S.sep
  keep := fun q u h1 h2 => by
    by_cases hne : q = p
    · subst hne
      have h1 : upd B.H0 q o q = some u := h1
      rw [upd_same] at h1
      cases h1
      exact hp
    · have h1 : upd B.H0 p o q = some u := h1
      rw [upd_ne hne] at h1
      exact S.keep q u h1 h2
  low := S.low
  new := fun q h1 h2 => by
    by_cases hne : q = p
    · subst hne; exact hF
    · have h1 : upd B.H0 p o q ≠ none := h1
      rw [upd_ne hne] at h1
      exact S.new q h1 h2
  dom := fun q h1 => by
    by_cases hne : q = p
    · subst hne; rw [hp]; exact Option.some_ne_none _
    · have h1 : upd B.H0 p o q ≠ none := h1
      rw [upd_ne hne] at h1
      exact S.dom q h1
  iow := fun i q h => by
    show upd B.H0 p o q ≠ none
    by_cases hne : q = p
    · subst hne; rw [upd_same]; exact Option.some_ne_none _
    · rw [upd_ne hne]; exact S.iow i q h
/-- it stands as it was -/
theorem St.unheld (S : St (B.rb (upd B.H0 p o) B.F0) F σ H ρ) (h0 : B.H0 p = none) (hf : B.F0 p = none) (iow : ∀ i q, B.io i = some q → B.H0 q ≠ none) : St B F σ H ρ ∧ H p = some o ∧ F p = none ∧ Off σ ρ p := by
  have off : ∀ i, B.io i ≠ some p := fun i h => iow i p h h0
  have hp : H p = some o := S.keep p o (by show upd B.H0 p o p = _; rw [upd_same]) off
  have hF : F p = none := S.new p (by show upd B.H0 p o p ≠ none; rw [upd_same]; exact Option.some_ne_none _) hf
  have out : ∀ q, B.H0 q ≠ none → q ≠ p := fun q h z => h (by rw [z]; exact h0)
  have up : ∀ q, B.H0 q ≠ none → (B.rb (upd B.H0 p o) B.F0).H0 q ≠ none := fun q h => by show upd B.H0 p o q ≠ none; rw [upd_ne (out q h)]; exact h
  refine ⟨⟨S.len, S.ex, fun i s x h1 h2 => ?_, S.sep, fun q u h1 h2 => ?_, S.low, fun q h1 h2 => S.new q (up q h1) h2, fun q h1 => S.dom q (up q h1), iow⟩, hp, hF, fun i s h1 h2 h3 => ?_⟩
  · have q := S.sl i s x h1 h2
    cases s with
    | u => exact True.intro
    | v d => exact q
    | o d =>
      obtain ⟨a, e1, e2, e3, e4⟩ := q
      have e3 : upd B.H0 p o a = none := e3
      have hne : a ≠ p := fun z => by rw [z, upd_same] at e3; cases e3
      rw [upd_ne hne] at e3
      exact ⟨a, e1, e2, e3, e4⟩
    | b d => exact q
    | e n => exact q
  · refine S.keep q u ?_ h2
    show upd B.H0 p o q = some u
    rw [upd_ne (out q (by rw [h1]; exact Option.some_ne_none _))]
    exact h1
  · have q := S.sl i s _ h1 h3
    cases s with
    | u => exact h2 rfl
    | v d => exact h2 rfl
    | o d =>
      obtain ⟨a, e1, e2, e3, e4⟩ := q
      cases e1
      have e3 : upd B.H0 p o p = none := e3
      rw [upd_same] at e3
      cases e3
    | b d =>
      obtain ⟨a, e1, e2, e3, e4⟩ := q
      cases e1
      exact off i e3
    | e n => exact h2 rfl
/-- the held object is changed -/
theorem St.reheld (S : St (B.rb (upd B.H0 p o) B.F0) F σ H ρ) (h0 : B.H0 p = none) (hf : B.F0 p = none) (iow : ∀ i q, B.io i = some q → B.H0 q ≠ none) : St (B.rb (upd B.H0 p o') B.F0) F σ (upd H p o') ρ := by
  obtain ⟨S1, hp, hF, off⟩ := S.unheld h0 hf iow
  have apart : ∀ (i : Nat) (s : Sl) (a : Addr), ρ[i]? = some s → s.mine ≠ none → σ[i]? = some (some (.ref a)) → a ≠ p := fun i s a h1 h2 h3 z => off i s h1 h2 (by rw [h3, z])
  have S2 : St B F σ (upd H p o') ρ := by
    refine ⟨S1.len, S1.ex.put hF, fun i s x h1 h2 => ?_, S1.sep, fun q u h1 h2 => ?_, S1.low, S1.new, fun q h => ?_, iow⟩
    · have q := S1.sl i s x h1 h2
      cases s with
      | u => exact True.intro
      | v d => exact q
      | o d =>
        obtain ⟨a, e1, e2, e3, e4⟩ := q
        subst e1
        exact ⟨a, rfl, e2, e3, e4.ex (Ex.refl F) (upd_ne (apart i _ a h1 (by intro z; cases z) h2))⟩
      | b d =>
        obtain ⟨a, e1, e2, e3, e4⟩ := q
        subst e1
        exact ⟨a, rfl, e2, e3, e4.ex (Ex.refl F) (upd_ne (apart i _ a h1 (by intro z; cases z) h2))⟩
      | e n => exact q
    · rw [upd_ne (fun z => by rw [z, h0] at h1; cases h1)]
      exact S1.keep q u h1 h2
    · by_cases hne : q = p
      · rw [hne, upd_same]; exact Option.some_ne_none _
      · rw [upd_ne hne]; exact S1.dom q h
  exact S2.held upd_same hF h0 off
end

/-! ### list comprehensions -/
def wipeE (ρ : Env) : List Nat → Env
  | [] => ρ
  | v :: vs => (wipeE ρ vs).set v .u
/-- behind a comprehension: its own slots as they were -/
def backS : Option Sl → Sl
  | some (.v d) => .v d
  | _ => .u
def unwipe (ρ0 ρ : Env) : List Nat → Env
  | [] => ρ
  | v :: vs => (unwipe ρ0 ρ vs).set v (backS ρ0[v]?)
def compF (vs : List Nat) (u : Tg) (c : EvT) (e : Ev) : List D → Env → Option (List D × Env)
  | [], ρ => some ([], ρ)
  | d :: ds, ρ => match u d ρ with
    | some ρ1 => match c ρ1 with
      | .ok false ρ2 => compF vs u c e ds (wipeE ρ2 vs)
      | .ok true ρ2 => match e ρ2 with
        | .ok r ρ3 => match frzR ρ3 r with
          | some (y, ρ4) => match compF vs u c e ds (wipeE ρ4 vs) with
            | some (ys, ρ5) => some (y :: ys, ρ5)
            | none => none
          | none => none
        | _ => none
      | _ => none
    | none => none
noncomputable def eLc (vs : List Nat) (u : Tg) (c : EvT) (e : Ev) (i : EvI) : Ev := fun ρ => (i ρ).bdE fun ds ρ1 => if lineOk ds.length then match compF vs u c e ds (wipeE ρ1 vs) with
  | some (rs, ρ2) => .ok (.f (.list rs)) (unwipe ρ1 ρ2 vs)
  | none => .bad
  else .bad
def tTrue : EvT := fun ρ => .ok true ρ
abbrev WNo : WX := fun _ _ _ _ => False
section
variable {B : Bs} {W : WX} {F F0 H : Hp} {σ σ' : L2.St} {ρ ρ0 : Env} {p : Addr} {o o' : HO}
theorem St.wipe (S : St B F σ H ρ) : ∀ vs : List Nat, St B F (L2.wipe σ vs) H (wipeE ρ vs)
  | [] => S
  | v :: vs => (St.wipe S vs).setU v none
theorem wipe_at {σ : L2.St} {j : Nat} : ∀ {vs : List Nat}, (L2.wipe σ vs)[j]? = if j ∈ vs then (σ[j]?).map (fun _ => none) else σ[j]?
  | [] => by simp [L2.wipe]
  | v :: vs => by
    unfold L2.wipe
    by_cases h : v = j
    · subst h
      rw [if_pos (by simp)]
      by_cases hl : v < σ.length
      · rw [List.getElem?_set_self (by rw [wipe_length]; exact hl), List.getElem?_eq_getElem hl]; rfl
      · rw [List.getElem?_eq_none (by rw [List.length_set, wipe_length]; omega), List.getElem?_eq_none (by omega)]; rfl
    · rw [List.getElem?_set_ne h, wipe_at]
      have : (j ∈ v :: vs) ↔ j ∈ vs := by simp [Ne.symm h]
      simp only [this]
theorem wipe_same {ws vs : List Nat} (m : Same ws (L2.wipe σ vs) σ') (h : ∀ j ∈ ws, j ∈ vs) : L2.wipe σ' vs = L2.wipe σ vs := by
  refine List.ext_getElem? fun j => ?_
  rw [wipe_at, wipe_at]
  have hl : σ'.length = σ.length := by rw [m.len, wipe_length]
  by_cases hj : j ∈ vs
  · rw [if_pos hj, if_pos hj]
    by_cases k : j < σ.length
    · rw [List.getElem?_eq_getElem k, List.getElem?_eq_getElem (by omega)]; rfl
    · rw [List.getElem?_eq_none (by omega), List.getElem?_eq_none (by omega)]
  · rw [if_neg hj, if_neg hj, m.at_ j (fun z => hj (h j z)), wipe_at, if_neg hj]
theorem unwipe_len : ∀ {vs : List Nat}, (Pd.unwipe ρ0 ρ vs).length = ρ.length
  | [] => rfl
  | v :: vs => by rw [Pd.unwipe, List.length_set, unwipe_len]
theorem unwipe_at {j : Nat} : ∀ {vs : List Nat}, (Pd.unwipe ρ0 ρ vs)[j]? = if j ∈ vs then (ρ[j]?).map (fun _ => backS ρ0[j]?) else ρ[j]?
  | [] => by simp [Pd.unwipe]
  | v :: vs => by
    unfold Pd.unwipe
    by_cases h : v = j
    · subst h
      rw [if_pos (by simp)]
      by_cases hl : v < ρ.length
      · rw [List.getElem?_set_self (by rw [unwipe_len]; exact hl), List.getElem?_eq_getElem hl]; rfl
      · rw [List.getElem?_eq_none (by rw [List.length_set, unwipe_len]; omega), List.getElem?_eq_none (l := ρ) (by omega)]; rfl
    · rw [List.getElem?_set_ne h, unwipe_at]
      have : (j ∈ v :: vs) ↔ j ∈ vs := by simp [Ne.symm h]
      simp only [this]
theorem backS_mine (s : Option Sl) : (backS s).mine = none := by
  unfold backS
  split <;> rfl
theorem St.unwipe (S0 : St B F0 σ H ρ0) {H' : Hp} (e : Ex F0 F) {vs : List Nat} (S : St B F (L2.wipe σ vs) H' ρ) : St B F σ H' (Pd.unwipe ρ0 ρ vs) := by
  have mine : ∀ (i : Nat) (s : Sl), (Pd.unwipe ρ0 ρ vs)[i]? = some s → s.mine ≠ none → ρ[i]? = some s ∧ (L2.wipe σ vs)[i]? = σ[i]? := fun i s h1 h2 => by
    rw [unwipe_at] at h1
    by_cases hi : i ∈ vs
    · rw [if_pos hi, Option.map_eq_some_iff] at h1
      obtain ⟨_, _, rfl⟩ := h1
      exact absurd (backS_mine _) h2
    · rw [if_neg hi] at h1
      exact ⟨h1, by rw [wipe_at, if_neg hi]⟩
  refine ⟨by rw [unwipe_len, ← S.len, wipe_length], S.ex, fun i s x h1 h2 => ?_, fun i j s t p h1 h2 h3 h4 h5 h6 => ?_, S.keep, S.low, S.new, S.dom, S.iow⟩
  · have h1' := h1
    rw [unwipe_at] at h1
    by_cases hi : i ∈ vs
    · rw [if_pos hi, Option.map_eq_some_iff] at h1
      obtain ⟨_, _, rfl⟩ := h1
      cases e0 : ρ0[i]? with
      | none => exact True.intro
      | some s0 =>
        cases s0 with
        | v d =>
          obtain ⟨v, e1, e2⟩ := S0.sl i _ x e0 h2
          exact ⟨v, e1, e2.ex e⟩
        | u => exact True.intro
        | o d => exact True.intro
        | b d => exact True.intro
        | e n => exact True.intro
    · rw [if_neg hi] at h1
      exact S.sl i s x h1 (by rw [wipe_at, if_neg hi]; exact h2)
  · obtain ⟨a1, a2⟩ := mine i s h1 h3
    obtain ⟨b1, b2⟩ := mine j t h2 h4
    exact S.sep i j s t p a1 b1 h3 h4 (a2.trans h5) (b2.trans h6)
end
/-- whatever the entry -/
def tGU (B : Bs) (ws : List Nat) (u : Tg) : TG := fun v σ H Q => ∃ H0 F0, tG (B.rb H0 F0) ws u v σ H Q
def tTU (B : Bs) (c : EvT) : TT := fun σ H Q => ∃ H0 F0, tT (B.rb H0 F0) WNo c σ H Q
def tEU (B : Bs) (e : Ev) : TE := fun σ H Q => ∃ H0 F0, tE (B.rb H0 F0) WNo e σ H Q
theorem pg_ex {X : Cx} {tg : Expr} {B : Bs} {ws : List Nat} {u : Tg} (h : ∀ H0 F0, PGD X (B.rb H0 F0) tg ws u) : PG X tg (tGU B ws u) := ⟨fun pins s σ H v w Q I r q => by
  obtain ⟨H0, F0, q⟩ := q
  exact (h H0 F0).run pins s σ H v w Q I r q⟩
theorem pts_ex {X : Cx} {cs : List Expr} {B : Bs} {c : EvT} (h : ∀ H0 F0, PTs X cs (tT (B.rb H0 F0) WNo c)) : PTs X cs (tTU B c) := ⟨fun pins s σ H Q I q => by
  obtain ⟨H0, F0, q⟩ := q
  exact (h H0 F0).run pins s σ H Q I q⟩
theorem pe_ex {X : Cx} {x : Expr} {B : Bs} {e : Ev} (h : ∀ H0 F0, PED X (B.rb H0 F0) WNo x e) : PE X x (tEU B e) := ⟨fun pins s σ H Q I q => by
  obtain ⟨H0, F0, q⟩ := q
  exact (h H0 F0).run pins s σ H Q I q⟩
abbrev PTsD (X : Cx) (B : Bs) (cs : List Expr) (c : EvT) : Prop := PTs X cs (tT B WNo c)
theorem pts_wk {X : Cx} {cs : List Expr} {t t' : TT} (h : PTs X cs t) (k : ∀ σ H Q, t' σ H Q → t σ H Q) : PTs X cs t' := ⟨fun pins s σ H Q I q => h.run pins s σ H Q I (k σ H Q q)⟩
theorem ts_nil {X : Cx} {B : Bs} : PTsD X B [] tTrue := pts_wk pts_nil fun σ H Q ⟨F, ρ, S, h⟩ => h F H (Ex.refl F) S
theorem ts_one {X : Cx} {B : Bs} {x : Expr} {c : EvT} (h : PTD X B WNo x c) : PTsD X B [x] c := pts_one h
section
variable {X : Cx} {B : Bs} {W : WX} {F F0 H : Hp} {σ σ' : L2.St} {ρ ρ0 : Env} {p : Addr} {o o' : HO} {Q : VK} {vs ws : List Nat} {u : Tg} {c : EvT} {e : Ev} {i : EvI}
theorem lc_ok (hv : ∀ j ∈ ws, j ∈ vs) (h : tE B W (eLc vs u c e i) σ H Q) : tLc (tI B W i) (tGU B ws u) (tTU B c) (tEU B e) vs σ H Q := by
  obtain ⟨F, ρ, S, h⟩ := h
  refine ibdE_ok S h fun ds ρ1 F1 H1 J e1 S1 hJ h1 => ?_
  intro L hL
  split at h1
  · rename_i hz
    cases ec : compF vs u c e ds (wipeE ρ1 vs) with
    | none => rw [ec] at h1; exact h1.elim
    | some q =>
      obtain ⟨rs, ρ2⟩ := q
      rw [ec] at h1
      simp only at h1
      have h0 : B.H0 L = none := S1.fresh hL
      have hFL : F1 L = none := S1.ex.free hL
      have hf : B.F0 L = none := S1.low.free hFL
      have iow := S1.iow
      refine ⟨fun j m H' => ∃ F' ρ' as xs bs, Ex F1 F' ∧ St (B.rb (upd B.H0 L (.lst xs)) B.F0) F' (L2.wipe σ vs) H' ρ' ∧ Reps B.c F' as xs ∧ compF vs u c e (ds.drop j) ρ' = some (bs, ρ2) ∧ as ++ bs = rs ∧ m = (ds.drop j).length ∧ xs.length ≤ j,
        ⟨_, F1, wipeE ρ1 vs, [], [], rs, Ex.refl _, ?_, .nil, ec, rfl, rfl, Nat.le_refl _⟩, ?_⟩
      · have S2 := (S1.grow (Grow.own (o := .lst []) S1.ex hL)).wipe vs
        refine S2.held upd_same hFL h0 fun j s h2 h3 h4 => ?_
        have S3 := S1.wipe vs
        have q := S3.sl j s _ h2 h4
        cases e : s.mine with
        | none => exact h3 e
        | some d =>
          obtain ⟨a, z1, _, z3⟩ := q.mine e
          cases z1
          exact z3.there hL
      · rintro j m H' ⟨F', ρ', as, xs, bs, e', S', ra, cf, rfl, rfl, hlen⟩
        obtain ⟨go, stop⟩ := hJ F' H' e' S'.ex j
        cases ed : ds.drop j with
        | nil =>
          refine .inl ⟨stop (by simpa using ed), ?_⟩
          rw [ed, compF] at cf
          cases cf
          obtain ⟨S3, hp, hF, off⟩ := S'.unheld h0 hf iow
          have S4 := S1.unwipe e' S3
          refine h1 F' H' _ e' S4 ⟨L, rfl, hF, h0, .lst hp (by rw [List.append_nil]; exact ra), fun i s h2 h3 h4 => ?_⟩
          rw [unwipe_at] at h2
          by_cases hi : i ∈ vs
          · rw [if_pos hi, Option.map_eq_some_iff] at h2
            obtain ⟨_, _, rfl⟩ := h2
            exact h3 (backS_mine _)
          · rw [if_neg hi] at h2
            exact off i s h2 h3 (by rw [wipe_at, if_neg hi]; exact h4)
        | cons d es =>
          obtain ⟨ed1, ed2⟩ := drop_at ed
          obtain ⟨go, yl⟩ := go d ed1
          rw [ed, compF] at cf
          refine .inr ⟨go, fun H' => ∃ F' ρ' as' xs bs', Ex F1 F' ∧ St (B.rb (upd B.H0 L (.lst xs)) B.F0) F' (L2.wipe σ vs) H' ρ' ∧ Reps B.c F' as' xs ∧ compF vs u c e es ρ' = some (bs', ρ2) ∧ as' ++ bs' = as ++ bs ∧ xs.length ≤ j + 1, fun H' h => ?_, fun x H'' hy => ?_⟩
          · obtain ⟨F', ρ', as, xs, bs, a1, a2, a3, a4, a5, a6⟩ := h
            exact ⟨es.length, Nat.lt_succ_self _, F', ρ', as, xs, bs, a1, a2, a3, by rw [ed2]; exact a4, a5, by rw [ed2], a6⟩
          · obtain ⟨F2, g, r⟩ := yl x H'' hy
            cases eu : u d ρ' with
            | none => rw [eu] at cf; cases cf
            | some ρ3 =>
              rw [eu] at cf
              simp only at cf
              refine ⟨upd B.H0 L (.lst xs), B.F0, F2, ρ', d, ρ3, S'.grow g, r, eu, fun σ2 sm S3 => ?_⟩
              have ew := wipe_same sm hv
              refine ⟨ew, upd B.H0 L (.lst xs), B.F0, F2, ρ3, S3, ?_⟩
              have e2 := e'.trans g.f
              have ra2 := ra.ex g.f
              cases k1 : c ρ3 with
              | ex _ _ => rw [k1] at cf; cases cf
              | bad => rw [k1] at cf; cases cf
              | ok b ρ4 =>
                rw [k1] at cf
                intro F4 H4 x4 S4
                cases b with
                | false =>
                  rw [if_neg Bool.false_ne_true]
                  refine ⟨F4, wipeE ρ4 vs, as, xs, bs, e2.trans x4, ?_, ra2.ex x4, cf, rfl, by omega⟩
                  rw [← ew]
                  exact S4.wipe vs
                | true =>
                  rw [if_pos rfl]
                  simp only at cf
                  refine ⟨upd B.H0 L (.lst xs), B.F0, F4, ρ4, S4, ?_⟩
                  cases k2 : e ρ4 with
                  | ex _ _ => rw [k2] at cf; cases cf
                  | bad => rw [k2] at cf; cases cf
                  | ok r5 ρ5 =>
                    rw [k2] at cf
                    intro F5 H5 y x5 S5 R5
                    simp only at cf
                    cases k3 : frzR ρ5 r5 with
                    | none => rw [k3] at cf; cases cf
                    | some q =>
                      obtain ⟨yd, ρ6⟩ := q
                      rw [k3] at cf
                      simp only at cf
                      obtain ⟨F6, x6, S6, r6⟩ := frzR_ok S5 R5 k3
                      cases k4 : compF vs u c e es (wipeE ρ6 vs) with
                      | none => rw [k4] at cf; cases cf
                      | some q =>
                        obtain ⟨ys, ρ7⟩ := q
                        rw [k4] at cf
                        cases cf
                        have hD : H5 L = some (.lst xs) := S6.keep L _ (by show upd B.H0 L _ L = _; rw [upd_same]) fun i h => iow i L h h0
                        have hj := get_lt ed1
                        refine ⟨xs, hD, ?_, F6, wipeE ρ6 vs, as ++ [yd], xs ++ [y], ys, ((e2.trans x4).trans x5).trans x6, ?_, ((ra2.ex x4).ex (x5.trans x6)).append (.cons r6 .nil), k4, by simp, by simp; omega⟩
                        · have := lineOk_le hz
                          omega
                        · rw [← ew]
                          exact (S6.reheld h0 hf iow).wipe vs
  · exact h1.elim
theorem d_lc {elt tg iter : Expr} {ifs : List Expr} {scope : Scope} {own : List (Str × Nat)} {pos : Pos} (hc : X.calm = true) (hN : X.N.Nodup) (hi : PID X B W tg iter i) (ok : BlkOk X.N X.env.scope scope own) (hv : ∀ j ∈ ws, j ∈ own.map (·.2))
    (hg : ∀ (s : Shared) (H : Hp) (C : Addr) (cl : List (Str × Addr)) (fp : List Addr) H0 F0, PGD (X.blk s H scope (compEnvC scope cl C X.env) fp) (B.rb H0 F0) tg ws u)
    (ht : ∀ (s : Shared) (H : Hp) (C : Addr) (cl : List (Str × Addr)) (fp : List Addr) H0 F0, PTsD (X.blk s H scope (compEnvC scope cl C X.env) fp) (B.rb H0 F0) ifs c)
    (he : ∀ (s : Shared) (H : Hp) (C : Addr) (cl : List (Str × Addr)) (fp : List Addr) H0 F0, PED (X.blk s H scope (compEnvC scope cl C X.env) fp) (B.rb H0 F0) WNo elt e) (hs : ∀ x, foldedSetIterable iter X.env x = pure x := by intro _; rfl) :
    PED X B W (.ListComp elt [⟨tg, iter, ifs, 0⟩] scope pos) (eLc (own.map (·.2)) u c e i) :=
  pe_wk (pe_lc hc hN hi ok (fun s H C cl fp => pg_ex (hg s H C cl fp)) (fun s H C cl fp => pts_ex (ht s H C cl fp)) (fun s H C cl fp => pe_ex (he s H C cl fp)) hs) fun σ H Q h => lc_ok hv h
theorem s_setLc {k : Nat} {y : Str} {py : Pos} {elt tg iter : Expr} {ifs : List Expr} {scope : Scope} {own : List (Str × Nat)} {pos spos : Pos} (hc : X.calm = true) (hN : X.N.Nodup) (hy : X.N[k]? = some y) (hyl : X.env.scope.names.lookup y = some .local)
    (hsw : swapsWith (.ListComp elt [⟨tg, iter, ifs, 0⟩] scope pos) (some (.Name y py)) spos.line X.env = pure true) (hi : PID X B W tg iter i) (ok : BlkOk X.N X.env.scope scope own) (hv : ∀ j ∈ ws, j ∈ own.map (·.2))
    (hg : ∀ (s : Shared) (H : Hp) (C : Addr) (cl : List (Str × Addr)) (fp : List Addr) H0 F0, PGD (X.blk s H scope (compEnvC scope cl C X.env) fp) (B.rb H0 F0) tg ws u)
    (ht : ∀ (s : Shared) (H : Hp) (C : Addr) (cl : List (Str × Addr)) (fp : List Addr) H0 F0, PTsD (X.blk s H scope (compEnvC scope cl C X.env) fp) (B.rb H0 F0) ifs c)
    (he : ∀ (s : Shared) (H : Hp) (C : Addr) (cl : List (Str × Addr)) (fp : List Addr) H0 F0, PED (X.blk s H scope (compEnvC scope cl C X.env) fp) (B.rb H0 F0) WNo elt e) (hs : ∀ x, foldedSetIterable iter X.env x = pure x := by intro _; rfl) :
    PSD X B W (.Assign [.Name y py] (.ListComp elt [⟨tg, iter, ifs, 0⟩] scope pos) spos) (sSet k (eLc (own.map (·.2)) u c e i)) :=
  ps_wk (ps_setLc hc hN hy hyl hsw hi ok (fun s H C cl fp => pg_ex (hg s H C cl fp)) (fun s H C cl fp => pts_ex (ht s H C cl fp)) (fun s H C cl fp => pe_ex (he s H C cl fp)) hs) fun D σ H h => by
    obtain ⟨F, ρ, S, h⟩ := h
    refine lc_ok hv ?_
    refine bdS_ok S h fun r ρ1 F1 H1 x e1 S1 R1 h1 => ?_
    cases e : setR ρ1 k r with
    | none => simp only [e] at h1; exact h1.elim
    | some ρ2 =>
      simp only [e] at h1
      obtain ⟨F2, e2, S2⟩ := setR_ok S1 R1 e
      exact h1 F2 _ H1 e2 S2
end
end Pd
end
section
set_option Elab.async false
set_option linter.all false
set_option maxRecDepth 100000
set_option maxHeartbeats 4000000
namespace Pd
open PySem L2

/-! ### methods that change a slot's object -/
def MutD (c : Ct) (r : V → List V → Hp → VK → Prop) (f : D → List D → Option (D × D)) : Prop :=
  ∀ F H p d ds xs d' res Q, Ex F H → F p = none → Own c F H p d → Reps c F ds xs → f d ds = some (d', res) → (∀ o x, Own c F (upd H p o) p d' → Rep c F res x → Q x (upd H p o)) → r (.ref p) xs H Q
def kindIs (T : String) : D → Bool
  | .list _ => T == "list"
  | .dict ((.none, .bool _) :: _) => T == "dict"
  | _ => false
def mineAt (ρ : Env) (i : Nat) : Option (Sl × D) := match ρ[i]? with
  | some s => match s.mine with
    | some d => some (s, d)
    | none => none
  | none => none
theorem mineAt_eq {ρ : Env} {i : Nat} {s : Sl} {d : D} (h : mineAt ρ i = some (s, d)) : ρ[i]? = some s ∧ s.mine = some d := by
  unfold mineAt at h
  split at h
  · rename_i s' e
    split at h
    · rename_i d' e'
      cases h
      exact ⟨e, e'⟩
    · cases h
  · cases h
def eMet (T : String) (i : Nat) (f : D → List D → Option (D × D)) (t : EvA) : Ev := fun ρ => match mineAt ρ i with
  | some (_, d0) => if kindIs T d0 then (t ρ).bdE fun rs ρ1 => match frzs ρ1 rs with
    | some (ds, ρ2) => match mineAt ρ2 i with
      | some (s, d) => match f d ds with
        | some (d', res) => .ok (.v res) (ρ2.set i (s.with d'))
        | none => .bad
      | none => .bad
    | none => .bad
    else .bad
  | none => .bad
section
variable {X : Cx} {B : Bs} {W : WX} {x y z e : Expr} {es : List Expr} {a b : Ev} {t : EvA} {pos apos cpos p : Pos} {F H : Hp} {σ : L2.St} {ρ : Env} {Q : VK} {K : Frag}
theorem tyV_own {c : Ct} {q : Addr} {d : D} {T : String} (h : Own c F H q d) (k : kindIs T d = true) : tyV K T (.ref q) H := by
  cases h with
  | lst h r =>
    have : T = "list" := by simpa [kindIs] using k
    exact .inl ⟨this, _, .inl (.inl h)⟩
  | dK h r =>
    have : T = "dict" := by simpa [kindIs] using k
    exact .inr (.inr (.inl ⟨this, .inl ⟨_, h⟩⟩))
  | dT h r =>
    have : T = "dict" := by simpa [kindIs] using k
    exact .inr (.inr (.inl ⟨this, .inr ⟨_, h⟩⟩))
theorem mine_at {i : Nat} {s : Sl} {d : D} (S : St B F σ H ρ) (h : mineAt ρ i = some (s, d)) : ∃ q, σ[i]? = some (some (.ref q)) ∧ F q = none ∧ Own B.c F H q d := by
  obtain ⟨h1, h2⟩ := mineAt_eq h
  have hl : i < σ.length := by rw [S.len]; exact get_lt h1
  obtain ⟨q, e, r1, r2⟩ := (S.sl i s _ h1 (List.getElem?_eq_getElem hl)).mine h2
  exact ⟨q, by rw [List.getElem?_eq_getElem hl, e], r1, r2⟩
theorem met_ok {T : String} {i : Nat} {r : V → List V → Hp → VK → Prop} {f : D → List D → Option (D × D)} (hr : MutD B.c r f) (h : tE B W (eMet T i f t) σ H Q) :
    tVar i σ H fun x H1 => tyV K T x H1 ∧ tA B W t σ H1 fun xs H2 => r x xs H2 Q := by
  obtain ⟨F, ρ, S, h⟩ := h
  unfold eMet at h
  cases e0 : mineAt ρ i with
  | none => rw [e0] at h; exact h.elim
  | some q =>
    obtain ⟨s0, d0⟩ := q
    rw [e0] at h
    simp only at h
    split at h
    · rename_i hk
      obtain ⟨q, hσ, hF, ho⟩ := mine_at S e0
      refine ⟨.ref q, hσ, tyV_own ho hk, abd_ok S h fun rs ρ1 F1 H1 xs e1 S1 R1 h1 => ?_⟩
      cases e2 : frzs ρ1 rs with
      | none => simp only [e2] at h1; exact h1.elim
      | some w =>
        obtain ⟨ds, ρ2⟩ := w
        simp only [e2] at h1
        obtain ⟨F2, x2, S2, q2⟩ := frzs_ok S1 R1 e2
        cases e3 : mineAt ρ2 i with
        | none => simp only [e3] at h1; exact h1.elim
        | some w =>
          obtain ⟨s, d⟩ := w
          simp only [e3] at h1
          cases e4 : f d ds with
          | none => simp only [e4] at h1; exact h1.elim
          | some w =>
            obtain ⟨d', res⟩ := w
            simp only [e4] at h1
            obtain ⟨q', hσ', hF', ho'⟩ := mine_at S2 e3
            rw [hσ] at hσ'
            cases hσ'
            obtain ⟨m1, m2⟩ := mineAt_eq e3
            refine hr F2 H1 q d ds xs d' res Q S2.ex hF' ho' q2 e4 fun o x ho2 rx => ?_
            exact h1 F2 _ x x2 (S2.mut m1 m2 hσ ho2) rx
    · exact h.elim
theorem d_met {T id : String} {nm : Str} {i : Nat} {r : V → List V → Hp → VK → Prop} {f : D → List D → Option (D × D)} (pa : PlainAttrs T) (slot : Slot T nm id) (hty : typeOf (.builtin id) = pure (.type "method_descriptor")) (hm : MtR X id r) (hr : MutD B.c r f)
    (ho : PE X x (tVar i)) (ha : PAD X B W (e :: es) t)
    (hbase : attributeBase x nm X.env (eval x X.env) = eval x X.env := by rfl)
    (hfew : ((backTo cpos (starEach (e :: es) X.env)).all (fun x => !x.1) && (backToKw cpos (keywordEach [] X.env)).all (fun x => x.1.isSome)
      && decide ((e :: es).length + ([] : List Keyword).length + (if ([] : List Keyword).isEmpty then 0 else 1) < 30)) = true := by rfl)
    (hline : (apos.endLine == cpos.line) = true := by rfl) (hs : starEach (e :: es) X.env = (false, eval e X.env) :: starEach es X.env := by rfl) (hplain : (backTo cpos (starEach es X.env)).any (·.1) = false := by rfl) :
    PED X B W (.Call (.Attribute x nm apos) (e :: es) [] cpos) (eMet T i f t) := pe_wk (pe_bm pa slot hty hm ho ha hbase hfew hline hs hplain) fun σ H Q h => met_ok hr h
theorem d_met0 {T id : String} {nm : Str} {i : Nat} {r : V → List V → Hp → VK → Prop} {f : D → List D → Option (D × D)} (pa : PlainAttrs T) (slot : Slot T nm id) (hty : typeOf (.builtin id) = pure (.type "method_descriptor")) (hm : MtR X id r) (hr : MutD B.c r f)
    (ho : PE X x (tVar i)) (hbase : attributeBase x nm X.env (eval x X.env) = eval x X.env := by rfl) (hline : (apos.endLine == cpos.line) = true := by rfl) :
    PED X B W (.Call (.Attribute x nm apos) [] [] cpos) (eMet T i f aNil) := pe_wk (pe_bm0 pa slot hty hm ho hbase hline) fun σ H Q h => by
      obtain ⟨v, e, ty, F, ρ, S, k⟩ := met_ok (K := X.K) hr h
      exact ⟨v, e, ty, k F H [] (Ex.refl F) S .nil⟩
theorem Own.lstI {c : Ct} {q : Addr} {ds : List D} (h : Own c F H q (.list ds)) : ∃ xs, H q = some (.lst xs) ∧ Reps c F ds xs := by
  cases h with | lst h r => exact ⟨_, h, r⟩
noncomputable def mAppend : D → List D → Option (D × D)
  | .list xs, [y] => if lineOk (xs.length + 1) then some (.list (xs ++ [y]), .none) else none
  | _, _ => none
noncomputable def mExtend : D → List D → Option (D × D)
  | .list xs, [.list ys] => if lineOk (xs.length + ys.length) then some (.list (xs ++ ys), .none) else none
  | _, _ => none
def mPop : D → List D → Option (D × D)
  | .list xs, [] => match xs[xs.length - 1]? with
    | some y => some (.list xs.dropLast, y)
    | none => none
  | _, _ => none
theorem Reps.dropLast {c : Ct} {ds : List D} {vs : List V} (r : Reps c F ds vs) : Reps c F ds.dropLast vs.dropLast := by
  rw [List.dropLast_eq_take, List.dropLast_eq_take, r.length]
  exact r.take _
theorem M_append {c : Ct} : MutD c rAppend mAppend := by
  intro F H p d ds xs d' res Q e hF ho hr hf k
  match d, ds, hr, hf, ho with
  | .list zs, [y], .cons hy .nil, hf, ho =>
    simp only [mAppend] at hf
    split at hf
    · rename_i hl
      cases hf
      obtain ⟨vs, h1, r1⟩ := ho.lstI
      refine ⟨p, vs, _, rfl, rfl, h1, ?_, k _ _ (.lst upd_same (r1.append (.cons hy .nil))) .non⟩
      have := lineOk_le hl
      rw [r1.length]
      omega
    · cases hf
theorem M_extend {c : Ct} : MutD c rExtend mExtend := by
  intro F H p d ds xs d' res Q e hF ho hr hf k
  match d, ds, hr, hf, ho with
  | .list zs, [.list ys], .cons hy .nil, hf, ho =>
    simp only [mExtend] at hf
    split at hf
    · rename_i hl
      cases hf
      obtain ⟨vs, h1, r1⟩ := ho.lstI
      cases hy with
      | lst h2 r2 =>
        refine ⟨p, _, vs, _, rfl, rfl, h1, e.tp _ _ trivial h2, ?_, k _ _ (.lst upd_same (r1.append r2)) .non⟩
        rw [r1.length, r2.length]
        exact lineOk_le hl
    · cases hf
theorem M_pop {c : Ct} : MutD c rPop mPop := by
  intro F H p d ds xs d' res Q e hF ho hr hf k
  match d, ds, hr, hf, ho with
  | .list zs, [], .nil, hf, ho =>
    simp only [mPop] at hf
    split at hf
    · rename_i y hy
      cases hf
      obtain ⟨vs, h1, r1⟩ := ho.lstI
      obtain ⟨v, hv, rv⟩ := r1.getD hy
      exact ⟨p, vs, v, rfl, rfl, h1, by rw [r1.length]; exact hv, k _ _ (.lst upd_same r1.dropLast) rv⟩
    · cases hf

/-! ### x[k] = e -/
noncomputable def fPut (t : Bool) (d k y : D) : Option D := match d with
  | .list xs => match k with
    | .int i => (ixN xs.length i).map fun j => .list (xs.set j y)
    | _ => none
  | d => match asDct d with
    | some (u, kvs) => if keyOk u k && (t || !u) && lineOk (kvs.length + 1) then some (dct u (dPut kvs k y)) else none
    | none => none
noncomputable def sPut (t : Bool) (i : Nat) (ix a : Ev) : Sv := fun ρ => (a ρ).bdS fun r ρ1 => match mineAt ρ1 i with
  | some _ => (ix ρ1).bdS fun r2 ρ2 => match look ρ2 r2, frzR ρ2 r.hold with
    | some k, some (y, ρ3) => match mineAt ρ3 i with
      | some (s, d) => match fPut t d k y with
        | some d' => .nx (ρ3.set i (s.with d'))
        | none => .bad
      | none => .bad
    | _, _ => .bad
  | none => .bad
theorem pset_or {t u : V → V → V → Hp → (Hp → Prop) → Prop} (h : PSet X t) (h' : PSet X u) : PSet X (fun o i v H Q => t o i v H Q ∨ u o i v H Q) := by
  intro pins s σ H o i v ov iv w Q I ro ri rv q
  rcases q with q | q
  · exact h pins s σ H o i v ov iv w Q I ro ri rv q
  · exact h' pins s σ H o i v ov iv w Q I ro ri rv q
theorem put_ok {c : Ct} {t : Bool} {q : Addr} {d d' k y : D} {xk xy : V} {Q : Hp → Prop} (hc : t = true → c.kt = false) (e : Ex F H) (ho : Own c F H q d) (hk : RdX c F H k xk) (hy : Rep c F y xy) (hf : fPut t d k y = some d') (kk : ∀ o, Own c F (upd H q o) q d' → Q (upd H q o)) :
    rSetL (.ref q) xk xy H Q ∨ rSetD (.ref q) xk xy H Q := by
  cases ho with
  | lst h r =>
    cases k with
    | int i =>
      simp only [fPut, Option.map_eq_some_iff] at hf
      obtain ⟨j, hj, rfl⟩ := hf
      exact .inl ⟨q, _, i, j, rfl, hk.int, h, by rw [r.length]; exact hj, kk _ (.lst upd_same (r.set hy j))⟩
    | _ => cases hf
  | dK h r =>
    simp only [fPut, asDct] at hf
    split at hf
    · rename_i hm
      cases hf
      simp only [Bool.and_eq_true] at hm
      obtain ⟨k', e'⟩ := Option.isSome_iff_exists.mp (show (toK k).isSome = true from hm.1.1)
      have := toK_kD e'
      subst this
      refine .inr ⟨q, _, rfl, .inl ⟨_, k', h, hk.key, ?_, rfl⟩, kk _ (.dK upd_same (r.put hy))⟩
      have := lineOk_le hm.2
      rw [r.length]; exact this
    · cases hf
  | dT h r =>
    simp only [fPut, asDct] at hf
    split at hf
    · rename_i hm
      cases hf
      simp only [Bool.and_eq_true] at hm
      obtain ⟨k', e'⟩ := Option.isSome_iff_exists.mp (show (toT k).isSome = true from hm.1.1)
      have := toT_kD e'
      subst this
      obtain ⟨b, rfl, hb⟩ := hk.tkey e (hc (by simpa using hm.1.2))
      refine .inr ⟨q, _, rfl, .inr ⟨_, k', b, h, rfl, hb, ?_, rfl⟩, kk _ (.dT upd_same (r.put hy))⟩
      have := lineOk_le hm.2
      rw [r.length]; exact this
    · cases hf
theorem RdX.mono {c : Ct} {F' : Hp} {d : D} {v : V} (h : RdX c F H d v) (e : Ex F F') : RdX c F' H d v := by
  cases h with
  | rep q => exact .rep (q.ex e)
  | own o => exact .own (o.ex e rfl)
theorem s_put {t : Bool} {i : Nat} {ix : Ev} {pos' : Pos} (hc : t = true → B.c.kt = false) (hu : X.A.units + 64 < cLine) (hv : PED X B W x a) (ho : PE X y (tVar i)) (hi : PED X B W z ix)
    (ha : ∀ v, assign (.Subscript y z pos') X.env v = (do
      let ov ← holding [v] (eval y X.env)
      let iv ← holding [v, ov] (eval z X.env)
      standAt pos'
      holding [v, ov, iv] (setItem ov iv v)
      release [v, ov, iv] []) := by intro _; rfl)
    (hs : swapsWithSole [.Subscript y z pos'] x pos.line X.env = pure false := by rfl) (hw : swappedStores [.Subscript y z pos'] x X.env = pure none := by rfl)
    (h1 : (assignEach [.Subscript y z pos'] X.env).map (·.2) = [assign (.Subscript y z pos') X.env] := by rfl) : PSD X B W (.Assign [.Subscript y z pos'] x pos) (sPut t i ix a) :=
  ps_wk (ps_asg hv (pg_sub ho hi (pset_or set_list (set_dict (by omega))) ha) hs hw h1) fun D σ H ⟨F, ρ, S, h⟩ => bdS_ok S h fun r ρ1 F1 H1 xv e1 S1 R1 h1 => by
    cases e2 : mineAt ρ1 i with
    | none => simp only [e2] at h1; exact h1.elim
    | some w =>
      obtain ⟨s0, d0⟩ := w
      simp only [e2] at h1
      obtain ⟨q, hσ, hF, ho1⟩ := mine_at S1 e2
      obtain ⟨F1', e1', S1', R1'⟩ := R1.hold S1
      refine ⟨.ref q, hσ, bdS_ok S1' (h1.mono e1') fun r2 ρ2 F2 H2 xk e3 S2 R2 h2 => ?_⟩
      cases l : look ρ2 r2 with
      | none => simp only [l] at h2; exact h2.elim
      | some k =>
        cases l2 : frzR ρ2 r.hold with
        | none => simp only [l, l2] at h2; exact h2.elim
        | some w =>
          obtain ⟨yd, ρ3⟩ := w
          simp only [l, l2] at h2
          have R1'' : ResOk B F2 σ H2 ρ2 r.hold xv := R1'.move hold_ne e3
          obtain ⟨F3, e4, S3, ry⟩ := frzR_ok S2 R1'' l2
          cases l3 : mineAt ρ3 i with
          | none => simp only [l3] at h2; exact h2.elim
          | some w =>
            obtain ⟨s, d⟩ := w
            simp only [l3] at h2
            cases l4 : fPut t d k yd with
            | none => simp only [l4] at h2; exact h2.elim
            | some d' =>
              simp only [l4] at h2
              obtain ⟨q', hσ', hF', ho'⟩ := mine_at S3 l3
              rw [hσ] at hσ'
              cases hσ'
              obtain ⟨m1, m2⟩ := mineAt_eq l3
              exact put_ok hc S3.ex ho' ((R2.rd S2 l).mono e4) ry l4 fun o ho2 => h2 F3 σ _ e4 (S3.mut m1 m2 hσ ho2)

/-! ### xs += ys -/
noncomputable def sAugL (i : Nat) (a : Ev) : Sv := fun ρ => match mineAt ρ i with
  | some _ => (a ρ).bdS fun r ρ1 => match frzR ρ1 r with
    | some (y, ρ2) => match mineAt ρ2 i with
      | some (s, d) => match mExtend d [y] with
        | some (d', _) => .nx (ρ2.set i (s.with d'))
        | none => .bad
      | none => .bad
    | none => .bad
  | none => .bad
theorem set_same {σ : L2.St} {i : Nat} {x : Option V} (h : σ[i]? = some x) : σ.set i x = σ := by
  refine List.ext_getElem? fun j => ?_
  by_cases e : i = j
  · subst e; rw [List.getElem?_set_self (get_lt h), h]
  · rw [List.getElem?_set_ne e]
theorem s_augL {i : Nat} {nm : Str} {pos' : Pos} (hN : X.N.Nodup) (hi : X.N[i]? = some nm) (hx : Loc X.env.scope nm) (ha : PED X B W x a)
    (hfn : X.fn nm = true ∨ X.env.scope.names.lookup nm = some .local := by first | exact .inl rfl | exact .inr rfl | assumption) : PSD X B W (.AugAssign (.Name nm pos') .Add x pos) (sAugL i a) :=
  ps_wk (ps_aug hN hi hx ha iop_ext hfn) fun D σ H ⟨F, ρ, S, h⟩ => by
    unfold sAugL at h
    cases e2 : mineAt ρ i with
    | none => simp only [e2] at h; exact h.elim
    | some w =>
      obtain ⟨s0, d0⟩ := w
      simp only [e2] at h
      obtain ⟨q, hσ, hF, ho1⟩ := mine_at S e2
      refine ⟨.ref q, hσ, bdS_ok S h fun r ρ1 F1 H1 xv e1 S1 R1 h1 => ?_⟩
      cases l2 : frzR ρ1 r with
      | none => simp only [l2] at h1; exact h1.elim
      | some w =>
        obtain ⟨yd, ρ2⟩ := w
        simp only [l2] at h1
        obtain ⟨F2, e4, S2, ry⟩ := frzR_ok S1 R1 l2
        cases l3 : mineAt ρ2 i with
        | none => simp only [l3] at h1; exact h1.elim
        | some w =>
          obtain ⟨s, d⟩ := w
          simp only [l3] at h1
          cases l4 : mExtend d [yd] with
          | none => simp only [l4] at h1; exact h1.elim
          | some w =>
            obtain ⟨d', res⟩ := w
            simp only [l4] at h1
            obtain ⟨q', hσ', hF', ho'⟩ := mine_at S2 l3
            rw [hσ] at hσ'
            cases hσ'
            obtain ⟨m1, m2⟩ := mineAt_eq l3
            obtain ⟨l, b, vs, zs, e5, e6, h5, h6, h7, h8⟩ := M_extend (Q := fun x H' => D.nx σ H') F2 H1 q d [yd] [xv] d' res S2.ex hF' ho' (.cons ry .nil) l4 fun o x ho2 rx => h1 F2 σ _ e4 (S2.mut m1 m2 hσ ho2)
            cases e5
            cases e6
            exact ⟨q, b, vs, zs, rfl, rfl, h5, h6, h7, by show D.nx (σ.set i (some (V.ref q))) _; rw [set_same hσ]; exact h8⟩

/-! ### a, b = e, e' by plain names -/
end
/-- results that may be new objects, each at its own place -/
inductive RessF (B : Bs) (F : Hp) (σ : L2.St) (H : Hp) (ρ : Env) : List Res → List V → Prop
  | nil : RessF B F σ H ρ [] []
  | cons {r : Res} {x : V} {rs : List Res} {xs : List V} : ResOk B F σ H ρ r x → (∀ (d : D) (k : Nat) (d' : D), r = Res.f d → rs[k]? = some (Res.f d') → xs[k]? ≠ some x) → RessF B F σ H ρ rs xs → RessF B F σ H ρ (r :: rs) (x :: xs)
def aOwn : List Ev → EvA
  | [] => fun ρ => .ok [] ρ
  | e :: es => fun ρ => (e ρ).bdA fun r ρ1 => (aOwn es ρ1).bd fun rs ρ2 => .ok (r :: rs) ρ2
def OutFOk (B : Bs) (W : WX) (F : Hp) (σ : L2.St) (Q : List V → Hp → Prop) : OutA → Prop
  | .ok rs ρ' => ∀ F' H' xs, Ex F F' → St B F' σ H' ρ' → RessF B F' σ H' ρ' rs xs → Q xs H'
  | .ex c ρ' => ∀ F' H', Ex F F' → St B F' σ H' ρ' → W (.ref (B.ec c)) none σ H'
  | .bad => False
/-- whatever the entry -/
def tEW (B : Bs) (W : WX) (e : Ev) : TE := fun σ H Q => ∃ H0 F0, tE (B.rb H0 F0) W e σ H Q
section
variable {X : Cx} {B : Bs} {W : WX}
theorem pe_exW {x : Expr} {e : Ev} (h : ∀ H0 F0, PED X (B.rb H0 F0) W x e) : PE X x (tEW B W e) := ⟨fun pins s σ H Q I q => by
  obtain ⟨H0, F0, q⟩ := q
  exact (h H0 F0).run pins s σ H Q I q⟩
def tAW (B : Bs) (W : WX) : List Ev → TA
  | [] => tNil
  | e :: es => tCons (tEW B W e) (tAW B W es)
theorem RessF.get {F H : Hp} {σ : L2.St} {ρ : Env} : ∀ {rs : List Res} {xs : List V} {k : Nat} {r : Res}, RessF B F σ H ρ rs xs → rs[k]? = some r → ∃ x, xs[k]? = some x ∧ ResOk B F σ H ρ r x
  | _, _, _, _, .nil, h => by simp at h
  | _, _, 0, _, .cons h _ _, e => by simp at e; subst e; exact ⟨_, rfl, h⟩
  | _, _, k + 1, _, .cons _ _ t, e => by simpa using RessF.get t (by simpa using e)
end
section
variable {B : Bs} {W : WX} {F F1 H : Hp} {σ : L2.St} {ρ : Env}
theorem RessF.unheld {o : HO} {p : Addr} (h0 : B.H0 p = none) {rs : List Res} {xs : List V} (h : RessF (B.rb (upd B.H0 p o) B.F0) F σ H ρ rs xs) : RessF B F σ H ρ rs xs ∧ ∀ (k : Nat) (d : D), rs[k]? = some (Res.f d) → xs[k]? ≠ some (V.ref p) := by
  have one : ∀ r x, ResOk (B.rb (upd B.H0 p o) B.F0) F σ H ρ r x → ResOk B F σ H ρ r x ∧ ∀ d, r = .f d → x ≠ .ref p := fun r x h => by
    cases r with
    | v d => exact ⟨h, fun _ z => nomatch z⟩
    | s i => exact ⟨h, fun _ z => nomatch z⟩
    | f d =>
      obtain ⟨q, e1, e2, e3, e4, e5⟩ := h
      have e3 : upd B.H0 p o q = none := e3
      have hne : q ≠ p := fun z => by rw [z, upd_same] at e3; cases e3
      rw [upd_ne hne] at e3
      exact ⟨⟨q, e1, e2, e3, e4, e5⟩, fun _ _ z => by rw [e1] at z; cases z; exact hne rfl⟩
  constructor
  · induction h with
    | nil => exact .nil
    | cons a b c ih => exact .cons (one _ _ a).1 b ih
  · intro k d e1 e2
    obtain ⟨x, e3, e4⟩ := h.get e1
    rw [e3] at e2
    cases e2
    exact (one _ _ e4).2 d rfl rfl
theorem own_ok : ∀ (es : List Ev) (H0 F0 : Hp) {F H : Hp} {ρ : Env} {Q : List V → Hp → Prop}, St (B.rb H0 F0) F σ H ρ → OutFOk (B.rb H0 F0) W F σ Q (aOwn es ρ) → tAW B W es σ H Q
  | [], H0, F0, F, H, ρ, Q, S, h => h F H [] (Ex.refl F) S .nil
  | e :: es, H0, F0, F, H, ρ, Q, S, h => by
    refine ⟨H0, F0, F, ρ, S, ?_⟩
    simp only [aOwn] at h
    cases e1 : e ρ with
    | bad => rw [e1] at h; exact h
    | ex c ρ1 => rw [e1] at h; exact h
    | ok r ρ1 =>
      rw [e1] at h
      intro F1 H1 x x1 S1 R1
      simp only [Out.bdA] at h
      have next : ∀ H0', St (B.rb H0' F0) F1 σ H1 ρ1 → (∀ F2 H2 ρ2, St (B.rb H0' F0) F2 σ H2 ρ2 → St (B.rb H0 F0) F2 σ H2 ρ2) →
          (∀ F2 H2 ρ2 rs xs, Ex F1 F2 → St (B.rb H0' F0) F2 σ H2 ρ2 → RessF (B.rb H0' F0) F2 σ H2 ρ2 rs xs → RessF (B.rb H0 F0) F2 σ H2 ρ2 (r :: rs) (x :: xs)) → tAW B W es σ H1 fun xs H2 => Q (x :: xs) H2 := fun H0' S2 back ress => by
        refine own_ok es H0' F0 S2 ?_
        cases e2 : aOwn es ρ1 with
        | bad => rw [e2] at h; exact h
        | ex c ρ2 => rw [e2] at h; exact fun F' H' x2 S3 => h F' H' (x1.trans x2) (back _ _ _ S3)
        | ok rs ρ2 => rw [e2] at h; exact fun F' H' xs x2 S3 R3 => h F' H' _ (x1.trans x2) (back _ _ _ S3) (ress _ _ _ _ _ x2 S3 R3)
      cases r with
      | v d => exact next H0 S1 (fun _ _ _ k => k) fun F2 H2 ρ2 rs xs x2 S2 R2 => .cons (ResOk.move R1 (fun d z => nomatch z) x2) (fun _ _ _ z => nomatch z) R2
      | s i => exact next H0 S1 (fun _ _ _ k => k) fun F2 H2 ρ2 rs xs x2 S2 R2 => .cons (ResOk.move R1 (fun d z => nomatch z) x2) (fun _ _ _ z => nomatch z) R2
      | f d =>
        obtain ⟨p, rfl, hF, h0, ho, hs⟩ := R1
        have h0 : H0 p = none := h0
        have hf : F0 p = none := S1.low.free hF
        have hp : ∃ o, H1 p = some o := by
          cases e : H1 p with
          | none => exact absurd e ho.there
          | some o => exact ⟨o, rfl⟩
        obtain ⟨o, hp⟩ := hp
        have S2 := S1.held hp hF h0 hs
        refine next (upd H0 p o) S2 (fun F2 H2 ρ2 k => (St.unheld (B := B.rb H0 F0) k h0 hf S1.iow).1) fun F2 H2 ρ2 rs xs x2 S3 R3 => ?_
        obtain ⟨S4, hp2, hF2, off2⟩ := St.unheld (B := B.rb H0 F0) S3 h0 hf S1.iow
        obtain ⟨R4, ne4⟩ := RessF.unheld (B := B.rb H0 F0) h0 R3
        exact .cons ⟨p, rfl, hF2, h0, ho.ex x2 (hp2.trans hp.symm), off2⟩ (fun _ k d' _ z => ne4 k d' z) R4
/-- the slots' objects among the results become values -/
def frzF (ρ : Env) : List Res → Option (List Res × Env)
  | [] => some ([], ρ)
  | .s i :: rs => match frzR ρ (.s i) with
    | some (d, ρ1) => match frzF ρ1 rs with
      | some (qs, ρ2) => some (.v d :: qs, ρ2)
      | none => none
    | none => none
  | r :: rs => match frzF ρ rs with
    | some (qs, ρ2) => some (r :: qs, ρ2)
    | none => none
def putF (ρ : Env) : List Nat → List Res → Option Env
  | [], [] => some ρ
  | i :: is, .v d :: rs => putF (ρ.set i (.v d)) is rs
  | i :: is, .f d :: rs => putF (ρ.set i (.o d)) is rs
  | _, _ => none
def setAll (σ : L2.St) : List Nat → List V → L2.St
  | i :: is, x :: xs => setAll (σ.set i (some x)) is xs
  | _, _ => σ
theorem frzR_off {i : Nat} {x : V} {d : D} {ρ' : Env} (S : St B F σ H ρ) (R : σ[i]? = some (some x)) (h : frzR ρ (.s i) = some (d, ρ')) : ∃ F', Ex F F' ∧ St B F' σ H ρ' ∧ Rep B.c F' d x ∧ ∀ q, Off σ ρ q → F q = none → F' q = none ∧ Off σ ρ' q := by
  simp only [frzR] at h
  cases e : ρ[i]? with
  | none => rw [e] at h; cases h
  | some s =>
    have q := S.sl i s _ e R
    rw [e] at h
    cases s with
    | u => cases h
    | e _ => cases h
    | b _ => cases h
    | v d' =>
      cases h
      obtain ⟨v, e1, e2⟩ := q
      cases e1
      exact ⟨F, Ex.refl F, S, e2, fun q h1 h2 => ⟨h2, h1⟩⟩
    | o d' =>
      cases h
      obtain ⟨p, e1, hp, h0, ho⟩ := q
      cases e1
      obtain ⟨o, e2, r⟩ := ho.froze hp
      have S1 : St B F σ H (ρ.set i .u) := S.setSl i .u rfl fun _ _ => trivial
      have out : ∀ (j : Nat) (t : Sl), (ρ.set i .u)[j]? = some t → t.mine ≠ none → σ[j]? ≠ some (some (.ref p)) := fun j t h1' h2 h3 => by
        by_cases ij : i = j
        · subst ij
          rw [List.getElem?_set_self (List.getElem?_eq_some_iff.mp e).1] at h1'
          cases h1'
          exact h2 rfl
        · rw [List.getElem?_set_ne ij] at h1'
          exact ij (S.sep i j _ _ p e h1' (by intro z; cases z) h2 R h3)
      have S2 := S1.freezeAt hp h0 e2 out
      have S3 := S2.setSl i (.v d) rfl fun y hy => by
        rw [R] at hy
        cases hy
        exact ⟨_, rfl, r⟩
      rw [List.set_set] at S3
      refine ⟨upd F p o, Ex.new hp, S3, r, fun q h1 h2 => ?_⟩
      have hne : q ≠ p := fun z => h1 i _ e (by intro z; cases z) (by rw [R, z])
      refine ⟨by rw [upd_ne hne]; exact h2, fun j t h3 h4 h5 => ?_⟩
      by_cases ij : i = j
      · subst ij
        rw [List.getElem?_set_self (List.getElem?_eq_some_iff.mp e).1] at h3
        cases h3
        exact h4 rfl
      · rw [List.getElem?_set_ne ij] at h3
        exact h1 j t h3 h4 h5
theorem RessF.fz {F' : Hp} {ρ' : Env} (e : Ex F F') (h : ∀ q, Off σ ρ q → F q = none → F' q = none ∧ Off σ ρ' q) {rs : List Res} {xs : List V} (r : RessF B F σ H ρ rs xs) : RessF B F' σ H ρ' rs xs := by
  induction r with
  | nil => exact .nil
  | @cons r x rs xs a b c ih =>
    refine .cons ?_ b ih
    cases r with
    | v d => exact Rep.ex e a
    | s i => exact a
    | f d =>
      obtain ⟨p, e1, e2, e3, e4, e5⟩ := a
      obtain ⟨h1, h2⟩ := h p e5 e2
      exact ⟨p, e1, h1, e3, e4.ex e rfl, h2⟩
def NoS (rs : List Res) : Prop := ∀ i, Res.s i ∉ rs
theorem frzF_ok : ∀ {rs qs : List Res} {xs : List V} {F : Hp} {ρ ρ' : Env}, St B F σ H ρ → RessF B F σ H ρ rs xs → frzF ρ rs = some (qs, ρ') → ∃ F', Ex F F' ∧ St B F' σ H ρ' ∧ RessF B F' σ H ρ' qs xs ∧ NoS qs ∧ (∀ q, Off σ ρ q → F q = none → F' q = none ∧ Off σ ρ' q) ∧ ∀ (k : Nat) (d : D), qs[k]? = some (Res.f d) → rs[k]? = some (Res.f d)
  | [], _, _, F, ρ, ρ', S, R, h => by
    cases R
    cases h
    exact ⟨F, Ex.refl F, S, .nil, fun i => by simp, fun q h1 h2 => ⟨h2, h1⟩, fun k d h => h⟩
  | .s i :: rs, _, _, F, ρ, ρ', S, .cons a b c, h => by
    simp only [frzF] at h
    cases e1 : frzR ρ (.s i) with
    | none => rw [e1] at h; cases h
    | some w =>
      obtain ⟨d, ρ1⟩ := w
      rw [e1] at h
      simp only at h
      cases e2 : frzF ρ1 rs with
      | none => rw [e2] at h; cases h
      | some w =>
        obtain ⟨qs, ρ2⟩ := w
        rw [e2] at h
        cases h
        obtain ⟨F1, x1, S1, r1, o1⟩ := frzR_off S a e1
        obtain ⟨F2, x2, S2, r2, n2, o2, k2⟩ := frzF_ok S1 (c.fz x1 o1) e2
        refine ⟨F2, x1.trans x2, S2, .cons (r1.ex x2) (fun d k d' z => nomatch z) r2, fun i hi => ?_, fun q h1 h2 => ?_, fun k d h => ?_⟩
        · rcases List.mem_cons.mp hi with z | z
          · cases z
          · exact n2 i z
        · obtain ⟨g1, g2⟩ := o1 q h1 h2
          exact o2 q g2 g1
        · cases k with
          | zero => simp at h
          | succ k => simpa using k2 k d (by simpa using h)
  | .v d0 :: rs, _, _, F, ρ, ρ', S, .cons a b c, h => by
    simp only [frzF] at h
    cases e2 : frzF ρ rs with
    | none => rw [e2] at h; cases h
    | some w =>
      obtain ⟨qs, ρ2⟩ := w
      rw [e2] at h
      cases h
      obtain ⟨F2, x2, S2, r2, n2, o2, k2⟩ := frzF_ok S c e2
      refine ⟨F2, x2, S2, .cons (Rep.ex x2 a) (fun d k d' z => nomatch z) r2, fun i hi => ?_, o2, fun k d h => ?_⟩
      · rcases List.mem_cons.mp hi with z | z
        · cases z
        · exact n2 i z
      · cases k with
        | zero => simpa using h
        | succ k => simpa using k2 k d (by simpa using h)
  | .f d0 :: rs, _, _, F, ρ, ρ', S, .cons a b c, h => by
    simp only [frzF] at h
    cases e2 : frzF ρ rs with
    | none => rw [e2] at h; cases h
    | some w =>
      obtain ⟨qs, ρ2⟩ := w
      rw [e2] at h
      cases h
      obtain ⟨F2, x2, S2, r2, n2, o2, k2⟩ := frzF_ok S c e2
      obtain ⟨p, e1, e2', e3, e4, e5⟩ := a
      obtain ⟨h1, h2⟩ := o2 p e5 e2'
      refine ⟨F2, x2, S2, .cons ⟨p, e1, h1, e3, e4.ex x2 rfl, h2⟩ (fun d k d' z1 z2 => b d k d' z1 (k2 k d' z2)) r2, fun i hi => ?_, o2, fun k d h => ?_⟩
      · rcases List.mem_cons.mp hi with z | z
        · cases z
        · exact n2 i z
      · cases k with
        | zero => simpa using h
        | succ k => simpa using k2 k d (by simpa using h)
theorem RessF.set {i : Nat} {x0 : V} {s : Sl} {rs : List Res} {xs : List V} (n : NoS rs) (hs : s.mine = none ∨ ∀ (k : Nat) (d : D), rs[k]? = some (Res.f d) → xs[k]? ≠ some x0) (r : RessF B F σ H ρ rs xs) : RessF B F (σ.set i (some x0)) H (ρ.set i s) rs xs := by
  induction r with
  | nil => exact .nil
  | @cons r x rs xs a b c ih =>
    refine .cons ?_ b (ih (fun i h => n i (List.mem_cons_of_mem _ h)) ?_)
    · cases r with
      | v d => exact a
      | s i => exact absurd (List.mem_cons_self ..) (n i)
      | f d =>
        obtain ⟨p, e1, e2, e3, e4, e5⟩ := a
        refine ⟨p, e1, e2, e3, e4, fun j t h1 h2 h3 => ?_⟩
        by_cases ij : i = j
        · subst ij
          have l1 := get_lt h1
          have l2 := get_lt h3
          rw [List.length_set] at l1 l2
          rw [List.getElem?_set_self l1] at h1
          rw [List.getElem?_set_self l2] at h3
          cases h1
          cases h3
          rcases hs with hs | hs
          · exact h2 hs
          · exact hs 0 d rfl (by rw [e1]; rfl)
        · rw [List.getElem?_set_ne ij] at h1 h3
          exact e5 j t h1 h2 h3
    · rcases hs with hs | hs
      · exact .inl hs
      · exact .inr fun k d h => by simpa using hs (k + 1) d (by simpa using h)
theorem putF_ok : ∀ {is : List Nat} {rs : List Res} {xs : List V} {σ : L2.St} {ρ ρ' : Env}, St B F σ H ρ → RessF B F σ H ρ rs xs → NoS rs → putF ρ is rs = some ρ' → St B F (setAll σ is xs) H ρ'
  | [], [], _, σ, ρ, ρ', S, .nil, n, h => by cases h; exact S
  | [], _ :: _, _, σ, ρ, ρ', S, r, n, h => by simp [putF] at h
  | _ :: _, [], _, σ, ρ, ρ', S, r, n, h => by simp [putF] at h
  | i :: is, .v d :: rs, x :: xs, σ, ρ, ρ', S, .cons a b c, n, h => by
    have n' : NoS rs := fun i h => n i (List.mem_cons_of_mem _ h)
    have z := putF_ok (S.setV i a) (c.set n' (.inl rfl)) n' h
    exact z
  | i :: is, .f d :: rs, x :: xs, σ, ρ, ρ', S, .cons a b c, n, h => by
    have n' : NoS rs := fun i h => n i (List.mem_cons_of_mem _ h)
    obtain ⟨p, e1, e2, e3, e4, e5⟩ := a
    subst e1
    have z := putF_ok (S.setO i e2 e3 e4 e5) (c.set n' (.inr fun k d' h => b d k d' rfl h)) n' h
    exact z
  | i :: is, .s j :: rs, _, σ, ρ, ρ', S, r, n, h => by simp [putF] at h
def sPar (is : List Nat) (es : List Ev) : Sv := fun ρ => match aOwn es ρ with
  | .ok rs ρ1 => match frzF ρ1 rs with
    | some (qs, ρ2) => match putF ρ2 is qs with
      | some ρ3 => .nx ρ3
      | none => .bad
    | none => .bad
  | .ex c ρ1 => .ex c ρ1
  | .bad => .bad
theorem par_ok {D : Ends} {is : List Nat} {es : List Ev} (h : tS B W (sPar is es) D σ H) : tAW B W es σ H fun xs H' => D.nx (setAll σ is xs) H' := by
  obtain ⟨F, ρ, S, h⟩ := h
  refine own_ok es B.H0 B.F0 S ?_
  unfold sPar at h
  cases e : aOwn es ρ with
  | bad => rw [e] at h; exact h
  | ex c ρ1 => rw [e] at h; exact fun F' H' x S' => h F' σ H' x S'
  | ok rs ρ1 =>
    rw [e] at h
    intro F' H' xs x1 S1 R1
    simp only at h
    cases e2 : frzF ρ1 rs with
    | none => rw [e2] at h; exact h.elim
    | some w =>
      obtain ⟨qs, ρ2⟩ := w
      rw [e2] at h
      simp only at h
      cases e3 : putF ρ2 is qs with
      | none => rw [e3] at h; exact h.elim
      | some ρ3 =>
        rw [e3] at h
        obtain ⟨F2, x2, S2, r2, n2, _, _⟩ := frzF_ok S1 R1 e2
        exact h F2 _ H' (x1.trans x2) (putF_ok S2 r2 n2 e3)
theorem tAW_wk : ∀ (es : List Ev) {σ : L2.St} {H : Hp} {Q R : List V → Hp → Prop}, (∀ xs H', xs.length = es.length → Q xs H' → R xs H') → tAW B W es σ H Q → tAW B W es σ H R := by
  intro es
  induction es with
  | nil => exact fun k h => k [] _ rfl h
  | cons e es ih =>
    intro σ H Q R k h
    obtain ⟨H0, F0, F, ρ, S, h⟩ := h
    refine ⟨H0, F0, F, ρ, S, ?_⟩
    cases e1 : e ρ with
    | bad => rw [e1] at h; exact h
    | ex c ρ1 => rw [e1] at h; exact h
    | ok r ρ1 => rw [e1] at h; exact fun F1 H1 x x1 S1 R1 => ih (fun xs H' hl q => k _ _ (by rw [List.length_cons, List.length_cons, hl]) q) (h F1 H1 x x1 S1 R1)
end
section
variable {X : Cx} {B : Bs} {W : WX} {x y z : Expr} {xs : List Expr} {es : List Ev} {a b d : Ev} {pos : Pos}
abbrev PAWD (X : Cx) (B : Bs) (W : WX) (xs : List Expr) (es : List Ev) : Prop := PA X xs (tAW B W es)
theorem aw_nil : PAWD X B W [] [] := pa_nil
theorem aw_cons (ha : ∀ H0 F0, PED X (B.rb H0 F0) W x a) (ht : PAWD X B W xs es) (hs : starEach (x :: xs) X.env = (false, eval x X.env) :: starEach xs X.env := by rfl) : PAWD X B W (x :: xs) (a :: es) := pa_cons (pe_exW ha) ht hs
theorem s_par {i j : Nat} {m n : Str} {px py pt : Pos} {kt k2 : Nat} {pt2 : Pos} (hc : X.calm = true) (hN : X.N.Nodup) (hi : X.N[i]? = some m) (hj : X.N[j]? = some n) (hij : i ≠ j)
    (hx : X.env.scope.names.lookup m = some .local) (hy : X.env.scope.names.lookup n = some .local) (ha : PAWD X B W [x, y] [a, b])
    (hw : swappedStores [.Tuple [.Name m px, .Name n py] kt pt] (.Tuple [x, y] k2 pt2) X.env = pure (some [m, n]))
    (hs : swapsWithSole [.Tuple [.Name m px, .Name n py] kt pt] (.Tuple [x, y] k2 pt2) pos.line X.env = pure false := by rfl) :
    PSD X B W (.Assign [.Tuple [.Name m px, .Name n py] kt pt] (.Tuple [x, y] k2 pt2) pos) (sPar [i, j] [a, b]) :=
  ps_wk (ps_par hc hN hi hj hij hx hy ha hw hs) fun D σ H h => by
    refine tAW_wk _ (fun xs H' hl q => ?_) (par_ok h)
    match xs, hl, q with
    | [v, w], _, q => exact ⟨v, w, rfl, q⟩
theorem s_par3 {i j l : Nat} {m n o : Str} {px py pz pt : Pos} {kt k2 : Nat} {pt2 : Pos} (hc : X.calm = true) (hN : X.N.Nodup) (hi : X.N[i]? = some m) (hj : X.N[j]? = some n) (hl : X.N[l]? = some o) (hij : i ≠ j) (hil : i ≠ l) (hjl : j ≠ l)
    (hx : X.env.scope.names.lookup m = some .local) (hy : X.env.scope.names.lookup n = some .local) (hz : X.env.scope.names.lookup o = some .local) (ha : PAWD X B W [x, y, z] [a, b, d])
    (hw : swappedStores [.Tuple [.Name m px, .Name n py, .Name o pz] kt pt] (.Tuple [x, y, z] k2 pt2) X.env = pure (some [m, n, o]))
    (hs : swapsWithSole [.Tuple [.Name m px, .Name n py, .Name o pz] kt pt] (.Tuple [x, y, z] k2 pt2) pos.line X.env = pure false := by rfl) :
    PSD X B W (.Assign [.Tuple [.Name m px, .Name n py, .Name o pz] kt pt] (.Tuple [x, y, z] k2 pt2) pos) (sPar [i, j, l] [a, b, d]) :=
  ps_wk (ps_par3 hc hN hi hj hl hij hil hjl hx hy hz ha hw hs) fun D σ H h => by
    refine tAW_wk _ (fun xs H' hl q => ?_) (par_ok h)
    match xs, hl, q with
    | [u, v, w], _, q => exact ⟨u, v, w, rfl, q⟩
end
end Pd
end
section
set_option Elab.async false
set_option linter.all false
set_option maxRecDepth 100000
set_option maxHeartbeats 4000000
namespace Pd
open PySem L2

/-! ### isinstance -/
def kindOf : D → Option String
  | .none => some "NoneType"
  | .bool _ => some "bool"
  | .int _ => some "int"
  | .str _ => some "str"
  | .list _ => some "list"
  | .tuple _ => some "tuple"
  | .dict ((.none, .bool _) :: _) => some "dict"
  | _ => none
def isT (a T : String) : Bool := a == T || (a == "bool" && T == "int")
def fIsi (T : String) (d : D) : Option Bool := (kindOf d).map fun a => isT a T
/-- the classes that a law asks for -/
def tyFine (T : String) : Bool := T == "int" || T == "bool" || T == "str" || T == "list" || T == "tuple" || T == "dict"
theorem kit_all {T a : String} (hT : tyFine T = true) (ha : a = "NoneType" ∨ a = "bool" ∨ a = "int" ∨ a = "str" ∨ a = "list" ∨ a = "tuple" ∨ a = "dict") : kitB a T = some (isT a T) := by
  simp only [tyFine, Bool.or_eq_true, beq_iff_eq] at hT
  rcases ha with rfl | rfl | rfl | rfl | rfl | rfl | rfl <;> rcases hT with ((((rfl | rfl) | rfl) | rfl) | rfl) | rfl <;> decide +kernel
section
variable {c : Ct} {F H : Hp}
theorem tyx_seq {K : Frag} {a : Addr} {xs : List V} (h : SqT K H a xs) : TyX K H (.ref a) (.type "tuple") := by
  rcases h with (h | ⟨o, h⟩) | ⟨o, its, n, h1, h2, _⟩
  · exact .base (.tup h)
  · exact .fTuple h
  · exact .kTuple h1 h2
theorem kind_ok {d : D} {x : V} {a : String} (e : Ex F H) (h : RdX c F H d x) (hk : kindOf d = some a) (hd : a ≠ "dict") : TyX c.K H x (.type a) := by
  cases d with
  | none => cases hk; rw [h.non]; exact .base .non
  | bool b => cases hk; rw [h.bool]; exact .base (.bl b)
  | int b => cases hk; rw [h.int]; exact .base (.int b)
  | str b => cases hk; rw [h.str]; exact .base (.str b)
  | list ds => cases hk; obtain ⟨p, xs, rfl, r, _⟩ := h.listX e; exact .base (.lst r)
  | tuple ds => cases hk; obtain ⟨p, xs, rfl, r, _⟩ := h.tuple e; exact tyx_seq r
  | dict ps =>
    exfalso
    match ps, hk with
    | (.none, .bool _) :: _, hk => cases hk; exact hd rfl
theorem kind_some {d : D} {a : String} (hk : kindOf d = some a) : a = "NoneType" ∨ a = "bool" ∨ a = "int" ∨ a = "str" ∨ a = "list" ∨ a = "tuple" ∨ a = "dict" := by
  unfold kindOf at hk
  split at hk <;> cases hk <;> simp
end
section
variable {X : Cx} {B : Bs} {W : WX} {x y z : Expr} {xs : List Expr} {a b d : Ev} {pos p p2 : Pos}
/-- isinstance(x, T), no dict -/
def fIsiV (T : String) (d : D) : Option Res := match kindOf d with
  | some a => if a = "dict" then none else some (.v (.bool (isT a T)))
  | none => none
theorem d_isi {T : String} {nm : Str} (hK : B.c.K = X.K) (hT : tyFine T = true) (hg : Gl X "isinstance") (hm : X.mg "isinstance" = none) (hgT : Gl X nm) (hmT : X.mg nm = none) (hv : bootBuiltins nm = some (.type T)) (ha : PED X B W x a)
    (hn : nm ≠ "__name__" := by decide) (hdb : (nm == ("__debug__" : Str)) = false := by decide)
    (s1 : starEach [.Name nm p2] X.env = (false, eval (.Name nm p2) X.env) :: starEach [] X.env := by rfl)
    (he : starEach [x, .Name nm p2] X.env = (false, eval x X.env) :: starEach [.Name nm p2] X.env := by rfl) (hpl : (backTo pos (starEach [.Name nm p2] X.env)).any (·.1) = false := by rfl) :
    PED X B W (.Call (.Name "isinstance" p) [x, .Name nm p2] [] pos) (e1 (fIsiV T) a) :=
  pe_wk (pe_callB call_isi hg hm PyProof.Rows.boot_isinstance (pa_cons ha (pa_cons (pe_bltn hgT hmT hv (v := .ty T) rfl hn hdb) pa_nil s1) he) (by decide) (by decide) he hpl) fun σ H Q ⟨F, ρ, S, h⟩ => by
    refine bd_ok S h fun r1 ρ1 F1 H1 xv e1 S1 R1 h1 => ?_
    cases l1 : look ρ1 r1 with
    | none => simp only [l1] at h1; exact h1.elim
    | some dv =>
      simp only [l1] at h1
      have rx := R1.rd S1 l1
      unfold fIsiV at h1
      cases hk : kindOf dv with
      | none => rw [hk] at h1; exact h1.elim
      | some ka =>
        rw [hk] at h1
        simp only at h1
        split at h1
        · exact h1.elim
        · rename_i hd
          have ty := kind_ok S1.ex rx hk hd
          rw [hK] at ty
          exact ⟨xv, .ty T, _, _, isT ka T, rfl, .ty T, ty, kit_ty (kit_all hT (kind_some hk)), h1 F1 H1 _ (Ex.refl _) S1 (.bl _)⟩
/-- a global that holds data -/
theorem d_glob {nm : Str} {d : D} {v : V} {u : Value} (hg : Gl X nm) (hm : X.mg nm = some u) (r : RelV v u) (hr : ∀ F, Rep B.c F d v) (hd : (nm == ("__debug__" : Str)) = false := by decide) : PED X B W (.Name nm pos) (eC d) := d_c (pe_glob hg hm r hd) hr
end
end Pd
end
section
set_option Elab.async false
set_option linter.all false
set_option maxRecDepth 100000
set_option maxHeartbeats 4000000
namespace Pd
open PySem L2 PyProof.Rows

/-! ### what a def promises, by data -/
/-- its end: a value, a new object, an error by its class's name; each with what the changed parameters hold -/
inductive FOut where
  | ret (d : D) (os : List D) | own (d : D) (os : List D) | ex (c : String) (os : List D) | bad
abbrev Fn := List D → FOut
/-- the arguments: by value, or (true) an object that is changed -/
inductive Args (c : Ct) (F H : Hp) : List Bool → List D → List V → List Addr → Prop
  | nil : Args c F H [] [] [] []
  | val {d : D} {v : V} {ms : List Bool} {ds : List D} {vs : List V} {ps : List Addr} : Rep c F d v → Args c F H ms ds vs ps → Args c F H (false :: ms) (d :: ds) (v :: vs) ps
  | io {d : D} {p : Addr} {ms : List Bool} {ds : List D} {vs : List V} {ps : List Addr} : F p = none → Own c F H p d → p ∉ ps → Args c F H ms ds vs ps → Args c F H (true :: ms) (d :: ds) (.ref p :: vs) (p :: ps)
/-- the changed parameters behind the call -/
inductive Outs (c : Ct) (F H : Hp) : List Addr → List D → Prop
  | nil : Outs c F H [] []
  | cons {p : Addr} {d : D} {ps : List Addr} {ds : List D} : Own c F H p d → Outs c F H ps ds → Outs c F H (p :: ps) (d :: ds)
structure After (c : Ct) (F H F' H' : Hp) (ps : List Addr) (os : List D) : Prop where
  f : Ex F F'
  ex : Ex F' H'
  keep : ∀ q o, H q = some o → q ∉ ps → H' q = some o
  new : ∀ q, H q ≠ none → F q = none → F' q = none
  dom : ∀ q, H q ≠ none → H' q ≠ none
  os : Outs c F' H' ps os
def FOk (c : Ct) (ec : String → Addr) (F H : Hp) (ps : List Addr) (Q : VK) (E : XK) : FOut → Prop
  | .ret d os => ∀ F' H' v, After c F H F' H' ps os → Rep c F' d v → Q v H'
  | .own d os => ∀ F' H' p, After c F H F' H' ps os → F' p = none → H p = none → Own c F' H' p d → Q (.ref p) H'
  | .ex n os => ∀ F' H', After c F H F' H' ps os → E (.ref (ec n)) none H'
  | .bad => False
def spD (c : Ct) (ec : String → Addr) (ms : List Bool) (f : Fn) : Sp := fun vs H Q E => ∃ F ds ps, Ex F H ∧ Args c F H ms ds vs ps ∧ FOk c ec F H ps Q E (f ds)
section
variable {c : Ct} {F H F' H' : Hp} {ms : List Bool} {ds : List D} {vs : List V} {ps : List Addr}
theorem Args.len (h : Args c F H ms ds vs ps) : vs.length = ms.length := by
  induction h with
  | nil => rfl
  | val _ _ ih => rw [List.length_cons, List.length_cons, ih]
  | io _ _ _ _ ih => rw [List.length_cons, List.length_cons, ih]
theorem Args.lenD (h : Args c F H ms ds vs ps) : ds.length = ms.length := by
  induction h with
  | nil => rfl
  | val _ _ ih => rw [List.length_cons, List.length_cons, ih]
  | io _ _ _ _ ih => rw [List.length_cons, List.length_cons, ih]
/-- the slots at the entry -/
def inSl : List Bool → List D → List Sl
  | true :: ms, d :: ds => .b d :: inSl ms ds
  | false :: ms, d :: ds => .v d :: inSl ms ds
  | _, _ => []
def initE (n : Nat) (ms : List Bool) (ds : List D) : Env := inSl ms ds ++ List.replicate (n - ms.length) .u
/-- which slots are changed parameters -/
def ioIx : List Bool → Nat → List Nat
  | true :: ms, i => i :: ioIx ms (i + 1)
  | false :: ms, i => ioIx ms (i + 1)
  | [], _ => []
def ioAt : List Bool → List V → Nat → Option Addr
  | true :: _, .ref p :: _, 0 => some p
  | _ :: ms, _ :: vs, i + 1 => ioAt ms vs i
  | _, _, _ => none
def outsOf (ρ : Env) : List Nat → Option (List D)
  | [] => some []
  | i :: is => match ρ[i]? with
    | some (.b d) => match outsOf ρ is with
      | some ds => some (d :: ds)
      | none => none
    | _ => none
/-- a body as a function -/
def toFn (n : Nat) (ms : List Bool) (b : Sv) : Fn := fun ds => match b (initE n ms ds) with
  | .nx ρ => match outsOf ρ (ioIx ms 0) with
    | some os => .ret .none os
    | none => .bad
  | .rt (.v d) ρ => match outsOf ρ (ioIx ms 0) with
    | some os => .ret d os
    | none => .bad
  | .rt (.f d) ρ => match outsOf ρ (ioIx ms 0) with
    | some os => .own d os
    | none => .bad
  | .rt (.s i) ρ => match ρ[i]? with
    | some (.o d) => match outsOf ρ (ioIx ms 0) with
      | some os => .own d os
      | none => .bad
    | _ => .bad
  | .ex c ρ => match outsOf ρ (ioIx ms 0) with
    | some os => .ex c os
    | none => .bad
  | _ => .bad
theorem inSl_len (h : Args c F H ms ds vs ps) : (inSl ms ds).length = ms.length := by
  induction h with
  | nil => rfl
  | val _ _ ih => simp [inSl, ih]
  | io _ _ _ _ ih => simp [inSl, ih]
theorem args_sl (h : Args c F H ms ds vs ps) : ∀ {i : Nat} {s : Sl}, (inSl ms ds)[i]? = some s → ∃ v, vs[i]? = some v ∧ ((∃ d, s = .v d ∧ Rep c F d v) ∨ ∃ d p, s = .b d ∧ v = .ref p ∧ F p = none ∧ Own c F H p d ∧ ioAt ms vs i = some p ∧ p ∈ ps) := by
  induction h with
  | nil => intro i s h; simp [inSl] at h
  | val r _ ih =>
    intro i s h
    cases i with
    | zero => simp [inSl] at h; subst h; exact ⟨_, rfl, .inl ⟨_, rfl, r⟩⟩
    | succ i => simp [inSl] at h; simpa [ioAt] using ih h
  | io h1 h2 h3 _ ih =>
    intro i s h
    cases i with
    | zero => simp [inSl] at h; subst h; exact ⟨_, rfl, .inr ⟨_, _, rfl, rfl, h1, h2, rfl, List.mem_cons_self ..⟩⟩
    | succ i =>
      simp [inSl] at h
      obtain ⟨v, e, k⟩ := ih h
      refine ⟨v, by simpa using e, ?_⟩
      rcases k with k | ⟨d, p, a1, a2, a3, a4, a5, a6⟩
      · exact .inl k
      · exact .inr ⟨d, p, a1, a2, a3, a4, a5, List.mem_cons_of_mem _ a6⟩
theorem ioAt_mem (h : Args c F H ms ds vs ps) : ∀ {i : Nat} {p : Addr}, ioAt ms vs i = some p → p ∈ ps ∧ H p ≠ none ∧ F p = none ∧ vs[i]? = some (.ref p) := by
  induction h with
  | nil => intro i p h; cases i <;> simp [ioAt] at h
  | val r _ ih =>
    intro i p h
    cases i with
    | zero => simp [ioAt] at h
    | succ i => obtain ⟨a, b, c', d'⟩ := ih (by simpa [ioAt] using h); exact ⟨a, b, c', by simpa using d'⟩
  | io h1 h2 h3 _ ih =>
    intro i p h
    cases i with
    | zero => simp [ioAt] at h; subst h; exact ⟨List.mem_cons_self .., h2.there, h1, rfl⟩
    | succ i => obtain ⟨a, b, c', d'⟩ := ih (by simpa [ioAt] using h); exact ⟨List.mem_cons_of_mem _ a, b, c', by simpa using d'⟩
theorem ioAt_inj (h : Args c F H ms ds vs ps) : ∀ {i j : Nat} {p : Addr}, ioAt ms vs i = some p → ioAt ms vs j = some p → i = j := by
  induction h with
  | nil => intro i j p h; cases i <;> simp [ioAt] at h
  | val r _ ih =>
    intro i j p h k
    cases i with
    | zero => simp [ioAt] at h
    | succ i =>
      cases j with
      | zero => simp [ioAt] at k
      | succ j =>
        have z := ih (i := i) (j := j) (p := p) (by simpa [ioAt] using h) (by simpa [ioAt] using k)
        omega
  | io h1 h2 h3 ha ih =>
    intro i j p h k
    cases i with
    | zero =>
      cases j with
      | zero => rfl
      | succ j =>
        simp [ioAt] at h k
        subst h
        exact absurd (ioAt_mem ha k).1 h3
    | succ i =>
      cases j with
      | zero =>
        simp [ioAt] at h k
        subst k
        exact absurd (ioAt_mem ha h).1 h3
      | succ j =>
        have z := ih (i := i) (j := j) (p := p) (by simpa [ioAt] using h) (by simpa [ioAt] using k)
        omega
/-- every changed parameter has its slot -/
theorem io_all (h : Args c F H ms ds vs ps) : ∀ p ∈ ps, ∃ i, ioAt ms vs i = some p := by
  induction h with
  | nil => intro p hp; cases hp
  | val r _ ih => intro p hp; obtain ⟨i, e⟩ := ih p hp; exact ⟨i + 1, by simpa [ioAt] using e⟩
  | io h1 h2 h3 _ ih =>
    intro p hp
    rcases List.mem_cons.mp hp with rfl | hp
    · exact ⟨0, rfl⟩
    · obtain ⟨i, e⟩ := ih p hp; exact ⟨i + 1, by simpa [ioAt] using e⟩
def bsOf (c : Ct) (ec : String → Addr) (F H : Hp) (ms : List Bool) (vs : List V) : Bs := ⟨c, H, F, ioAt ms vs, ec, 0, ""⟩
theorem st_init {ec : String → Addr} {N : List Str} (e : Ex F H) (h : Args c F H ms ds vs ps) (hn : ms.length ≤ N.length) : St (bsOf c ec F H ms vs) F (L2.start N vs) H (initE N.length ms ds) where
  len := by
    unfold L2.start initE
    rw [List.length_append, List.length_append, List.length_map, List.length_replicate, List.length_replicate, h.len, inSl_len h]
  ex := e
  sl := fun i s x h1 h2 => by
    unfold initE at h1
    unfold L2.start at h2
    by_cases hi : i < ms.length
    · rw [List.getElem?_append_left (by rw [inSl_len h]; exact hi)] at h1
      rw [List.getElem?_append_left (by rw [List.length_map, h.len]; exact hi), List.getElem?_map] at h2
      obtain ⟨v, e1, k⟩ := args_sl h h1
      rw [e1] at h2
      cases h2
      rcases k with ⟨d, rfl, r⟩ | ⟨d, p, rfl, rfl, a1, a2, a3, _⟩
      · exact ⟨v, rfl, r⟩
      · exact ⟨p, rfl, a1, a3, a2⟩
    · rw [List.getElem?_append_right (by rw [inSl_len h]; omega)] at h1
      have : s = .u := by
        have := List.mem_of_getElem? h1
        exact (List.mem_replicate.mp this).2
      subst this
      exact True.intro
  sep := fun i j s t p h1 h2 h3 h4 h5 h6 => by
    have one : ∀ (i : Nat) (s : Sl), (initE N.length ms ds)[i]? = some s → s.mine ≠ none → (L2.start N vs)[i]? = some (some (.ref p)) → ioAt ms vs i = some p := fun i s h1 h2 h3 => by
      unfold initE at h1
      unfold L2.start at h3
      by_cases hi : i < ms.length
      · rw [List.getElem?_append_left (by rw [inSl_len h]; exact hi)] at h1
        rw [List.getElem?_append_left (by rw [List.length_map, h.len]; exact hi), List.getElem?_map] at h3
        obtain ⟨v, e1, k⟩ := args_sl h h1
        rw [e1] at h3
        cases h3
        rcases k with ⟨d, rfl, r⟩ | ⟨d, p', rfl, e2, a1, a2, a3, _⟩
        · exact absurd rfl h2
        · cases e2; exact a3
      · rw [List.getElem?_append_right (by rw [inSl_len h]; omega)] at h1
        have : s = .u := (List.mem_replicate.mp (List.mem_of_getElem? h1)).2
        subst this
        exact absurd rfl h2
    exact ioAt_inj h (one i s h1 h3 h5) (one j t h2 h4 h6)
  keep := fun q o h1 _ => h1
  low := Ex.refl F
  new := fun q _ h2 => h2
  dom := fun q h => h
  iow := fun i q h1 => (ioAt_mem h h1).2.1
theorem outs_ok {ec : String → Addr} {σ : L2.St} {ρ : Env} (h : Args c F H ms ds vs ps) (S : St (bsOf c ec F H ms vs) F' σ H' ρ) : ∀ {ms' : List Bool} {ds' : List D} {vs' : List V} {ps' : List Addr} (i0 : Nat), Args c F H ms' ds' vs' ps' →
    (∀ i, ioAt ms vs (i0 + i) = ioAt ms' vs' i) → ∀ {os : List D}, outsOf ρ (ioIx ms' i0) = some os → Outs c F' H' ps' os := by
  intro ms' ds' vs' ps' i0 h'
  induction h' generalizing i0 with
  | nil => intro _ os ho; cases ho; exact .nil
  | val r _ ih =>
    intro hi os ho
    exact ih (i0 + 1) (fun i => by have := hi (i + 1); rw [← Nat.add_assoc, Nat.add_right_comm] at this; simpa [ioAt] using this) ho
  | @io d p ms'' ds'' vs'' ps'' h1 h2 h3 _ ih =>
    intro hi os ho
    simp only [ioIx, outsOf] at ho
    cases e : ρ[i0]? with
    | none => rw [e] at ho; cases ho
    | some s =>
      rw [e] at ho
      cases s with
      | b d' =>
        simp only at ho
        cases e2 : outsOf ρ (ioIx ms'' (i0 + 1)) with
        | none => rw [e2] at ho; cases ho
        | some os' =>
          rw [e2] at ho
          cases ho
          refine .cons ?_ (ih (i0 + 1) (fun i => by have := hi (i + 1); rw [← Nat.add_assoc, Nat.add_right_comm] at this; simpa [ioAt] using this) e2)
          have hl : i0 < σ.length := by rw [S.len]; exact get_lt e
          obtain ⟨p', e3, e4, e5, e6⟩ := S.sl i0 _ _ e (List.getElem?_eq_getElem hl)
          have := hi 0
          rw [Nat.add_zero] at this
          have e5 : ioAt ms vs i0 = some p' := e5
          rw [this] at e5
          cases e5
          exact e6
      | u => cases ho
      | v _ => cases ho
      | o _ => cases ho
      | e _ => cases ho
theorem after_of {ec : String → Addr} {σ : L2.St} {ρ : Env} {os : List D} (h : Args c F H ms ds vs ps) (S : St (bsOf c ec F H ms vs) F' σ H' ρ) (ho : outsOf ρ (ioIx ms 0) = some os) : After c F H F' H' ps os where
  f := S.low
  ex := S.ex
  keep := fun q o h1 h2 => S.keep q o h1 fun i h3 => h2 (ioAt_mem h h3).1
  new := S.new
  dom := S.dom
  os := outs_ok h S 0 h (fun i => by rw [Nat.zero_add]) ho
/-- the body's end as the def's -/
theorem end_of {ec : String → Addr} {n : Nat} {Q : VK} {E : XK} {b : Sv} (h : Args c F H ms ds vs ps) (q : FOk c ec F H ps Q E (toFn n ms b ds)) :
    SOk (bsOf c ec F H ms vs) (fun cls d _ H => E cls d H) F { nx := fun _ H' => Q .non H', rt := Q } (b (initE n ms ds)) := by
  unfold toFn at q
  cases e : b (initE n ms ds) with
  | nx ρ =>
    rw [e] at q
    cases e2 : outsOf ρ (ioIx ms 0) with
    | none => simp only [e2] at q; exact q.elim
    | some os => simp only [e2] at q; exact fun F' σ' H' x S => q F' H' .non (after_of h S e2) .non
  | rt r ρ =>
    rw [e] at q
    cases r with
    | v d =>
      cases e2 : outsOf ρ (ioIx ms 0) with
      | none => simp only [e2] at q; exact q.elim
      | some os => simp only [e2] at q; exact fun F' σ' H' v x S R => q F' H' v (after_of h S e2) R
    | f d =>
      cases e2 : outsOf ρ (ioIx ms 0) with
      | none => simp only [e2] at q; exact q.elim
      | some os =>
        simp only [e2] at q
        intro F' σ' H' v x S R
        obtain ⟨p, rfl, a1, a2, a3, _⟩ := R
        exact q F' H' p (after_of h S e2) a1 a2 a3
    | s i =>
      simp only at q
      cases e3 : ρ[i]? with
      | none => simp only [e3] at q; exact q.elim
      | some s =>
        cases s with
        | o d =>
          simp only [e3] at q
          cases e2 : outsOf ρ (ioIx ms 0) with
          | none => simp only [e2] at q; exact q.elim
          | some os =>
            simp only [e2] at q
            intro F' σ' H' v x S R
            have R : σ'[i]? = some (some v) := R
            obtain ⟨p, e4, a1, a2, a3⟩ := S.sl i _ _ e3 R
            cases e4
            exact q F' H' p (after_of h S e2) a1 a2 a3
        | u => simp only [e3] at q; exact q.elim
        | v _ => simp only [e3] at q; exact q.elim
        | b _ => simp only [e3] at q; exact q.elim
        | e _ => simp only [e3] at q; exact q.elim
  | bk ρ => rw [e] at q; exact q.elim
  | ct ρ => rw [e] at q; exact q.elim
  | ex n ρ =>
    rw [e] at q
    cases e2 : outsOf ρ (ioIx ms 0) with
    | none => simp only [e2] at q; exact q.elim
    | some os => simp only [e2] at q; exact fun F' σ' H' x S => q F' H' (after_of h S e2)
  | bad => rw [e] at q; exact q.elim
end
section
variable {c : Ct} {ec : String → Addr} {P : Program} {w : World} {K : Frag} {mg : Str → Option Value} {base : Heap} {k : Nat} {f : Addr} {name qual : Str} {params : Arguments} {body : List Stmt} {scope : Scope} {dV kV doc pm cdv ct oc : Value} {an od : Option Addr}
    {osl : Array (Option Value)} {N ps : List Str} {ms : List Bool} {b : Sv}
/-- a def by its body's derivation -/
theorem fnD (lk : K.lookup f = some ⟨oc, od, .func (PySem.W.fnOf name qual params body scope dV kV doc pm an cdv ct), osl⟩) (hcd : PySem.W.codeIn K cdv qual = true) (S : FnScope N ps scope) (hm : ms.length = ps.length) (hN : ps.length ≤ N.length)
    (hb : ∀ (A : Around) (outer : List PySem.Env) (s : Shared) (H : Hp) (E : XK) (B : Bs), Room k (A.deeper (envOfC qual scope s.heap.objs.size f cdv)) → B.c = c → B.ec = ec →
      PSsD (cxOf (L2N.CX P w) P w K mg base N qual scope f cdv A outer s H E) B (fun cls d _ H => E cls d H) body b) :
    FnOk P w K mg base (L2N.CX P w) (k + 1) f (PySem.W.fnOf name qual params body scope dV kV doc pm an cdv ct) ps (spD c ec ms (toFn N.length ms b)) :=
  fn_of lk hcd S (fun vs H Q E ⟨F, ds, qs, e, h, _⟩ => by rw [h.len, hm]) fun A outer s H vs Q E hr ⟨F, ds, qs, e, h, q⟩ =>
    ⟨_, hb A outer s H E (bsOf c ec F H ms vs) hr rfl rfl, F, initE N.length ms ds, st_init e h (by rw [hm]; exact hN), end_of h q⟩
/-- another function that says no more -/
theorem FnOk.fnEq {fd : FuncData} {g g' : Fn} (F : FnOk P w K mg base (L2N.CX P w) k f fd ps (spD c ec ms g)) (h : ∀ ds, g' ds ≠ .bad → g ds = g' ds) : FnOk P w K mg base (L2N.CX P w) k f fd ps (spD c ec ms g') :=
  F.imp fun vs H Q E ⟨F, ds, qs, e, a, q⟩ => ⟨F, ds, qs, e, a, by
    rw [h ds (fun z => by rw [z] at q; exact q)]
    exact q⟩
end
end Pd
end
section
set_option Elab.async false
set_option linter.all false
set_option maxRecDepth 100000
set_option maxHeartbeats 4000000
namespace Pd
open PySem L2 PyProof.Rows

/-! ### calls of the text's own defs -/
def scal : D → Bool
  | .none => true
  | .bool _ => true
  | .int _ => true
  | .str _ => true
  | _ => false
/-- every argument by value -/
def endCall (ρ1 : Env) (rs : List Res) : FOut → Out
  | .ret d _ => if scal d then .ok (.v d) ρ1 else match frzs ρ1 rs with
    | some (_, ρ2) => .ok (.v d) ρ2
    | none => .bad
  | .own d _ => match frzs ρ1 rs with
    | some (_, ρ2) => .ok (.f d) ρ2
    | none => .bad
  | .ex c _ => .ex c ρ1
  | .bad => .bad
def eCall (n : Nat) (f : Fn) (t : EvA) : Ev := fun ρ => (t ρ).bdE fun rs ρ1 => match looks ρ1 rs with
  | some ds => if ds.length = n then endCall ρ1 rs (f ds) else .bad
  | none => .bad
/-- the arguments are passed: their data, the slots that are changed -/
def pass (ρ : Env) : List Bool → List Res → Option (List D × List Nat × Env)
  | [], [] => some ([], [], ρ)
  | false :: ms, r :: rs => match frzR ρ r with
    | some (d, ρ1) => match pass ρ1 ms rs with
      | some (ds, is, ρ2) => some (d :: ds, is, ρ2)
      | none => none
    | none => none
  | true :: ms, .s i :: rs => match pass ρ ms rs with
    | some (ds, is, ρ2) => if i ∈ is then none else match mineAt ρ2 i with
      | some (_, d) => some (d :: ds, i :: is, ρ2)
      | none => none
    | none => none
  | _, _ => none
def updS (ρ : Env) : List Nat → List D → Env
  | i :: is, d :: ds => updS (match ρ[i]? with
    | some s => ρ.set i (s.with d)
    | none => ρ) is ds
  | _, _ => ρ
def eCallM (ms : List Bool) (f : Fn) (t : EvA) : Ev := fun ρ => (t ρ).bdE fun rs ρ1 => match pass ρ1 ms rs with
  | some (ds, is, ρ2) => match f ds with
    | .ret d os => .ok (.v d) (updS ρ2 is os)
    | .own d os => .ok (.f d) (updS ρ2 is os)
    | .ex c os => .ex c (updS ρ2 is os)
    | .bad => .bad
  | none => .bad
section
variable {B : Bs} {W : WX} {F F' H H' : Hp} {σ : L2.St} {ρ : Env}
theorem outs_len {c : Ct} {ps : List Addr} {os : List D} (h : Outs c F H ps os) : ps.length = os.length := by
  induction h with
  | nil => rfl
  | cons _ _ ih => rw [List.length_cons, List.length_cons, ih]
theorem outs_get {c : Ct} {ps : List Addr} {os : List D} (h : Outs c F H ps os) : ∀ {k : Nat} {p : Addr} {d : D}, ps[k]? = some p → os[k]? = some d → Own c F H p d := by
  induction h with
  | nil => intro k p d h; simp at h
  | cons a _ ih =>
    intro k p d h1 h2
    cases k with
    | zero => simp at h1 h2; subst h1 h2; exact a
    | succ k => exact ih (by simpa using h1) (by simpa using h2)
/-- the passed slots and their objects -/
inductive AtSl (σ : L2.St) (ρ : Env) : List Nat → List Addr → Prop
  | nil : AtSl σ ρ [] []
  | cons {i : Nat} {p : Addr} {is : List Nat} {ps : List Addr} {s : Sl} : σ[i]? = some (some (.ref p)) → ρ[i]? = some s → s.mine ≠ none → i ∉ is → AtSl σ ρ is ps → AtSl σ ρ (i :: is) (p :: ps)
theorem AtSl.get {is : List Nat} {ps : List Addr} (h : AtSl σ ρ is ps) : ∀ {k : Nat} {i : Nat}, is[k]? = some i → ∃ p s, ps[k]? = some p ∧ σ[i]? = some (some (.ref p)) ∧ ρ[i]? = some s ∧ s.mine ≠ none := by
  induction h with
  | nil => intro k i h; simp at h
  | cons a b c _ _ ih =>
    intro k i h
    cases k with
    | zero => simp at h; subst h; exact ⟨_, _, rfl, a, b, c⟩
    | succ k => simpa using ih (by simpa using h)
theorem AtSl.mem {is : List Nat} {ps : List Addr} (h : AtSl σ ρ is ps) : ∀ p ∈ ps, ∃ i s, i ∈ is ∧ σ[i]? = some (some (.ref p)) ∧ ρ[i]? = some s ∧ s.mine ≠ none := by
  induction h with
  | nil => intro p hp; cases hp
  | cons a b c _ _ ih =>
    intro p hp
    rcases List.mem_cons.mp hp with rfl | hp
    · exact ⟨_, _, List.mem_cons_self .., a, b, c⟩
    · obtain ⟨i, s, e1, e2⟩ := ih p hp
      exact ⟨i, s, List.mem_cons_of_mem _ e1, e2⟩
theorem updS_len : ∀ {is : List Nat} {os : List D} {ρ : Env}, (updS ρ is os).length = ρ.length
  | [], _, ρ => by simp [updS]
  | _ :: _, [], ρ => by simp [updS]
  | i :: is, d :: ds, ρ => by
    rw [updS, updS_len]
    split
    · rw [List.length_set]
    · rfl
theorem updS_at : ∀ {is : List Nat} {os : List D} {ρ : Env}, is.Nodup → ∀ {j : Nat} {t : Sl}, (updS ρ is os)[j]? = some t → ∃ s, ρ[j]? = some s ∧ ((t = s ∧ (j ∈ is → is.length ≠ os.length)) ∨ ∃ (k : Nat) (d : D), is[k]? = some j ∧ os[k]? = some d ∧ t = s.with d)
  | [], _, ρ, _, j, t, h => by
    have h : ρ[j]? = some t := by simpa [updS] using h
    exact ⟨t, h, .inl ⟨rfl, by simp⟩⟩
  | _ :: _, [], ρ, _, j, t, h => by
    have h : ρ[j]? = some t := by simpa [updS] using h
    exact ⟨t, h, .inl ⟨rfl, by simp⟩⟩
  | i :: is, d :: ds, ρ, nd, j, t, h => by
    rw [updS] at h
    have nd' := List.nodup_cons.mp nd
    obtain ⟨s', e1, e2⟩ := updS_at nd'.2 h
    by_cases ij : i = j
    · subst ij
      cases e3 : ρ[i]? with
      | none => rw [e3] at e1; simp only at e1; rw [e3] at e1; cases e1
      | some s =>
        rw [e3] at e1
        simp only at e1
        rw [List.getElem?_set_self (get_lt e3)] at e1
        cases e1
        refine ⟨s, rfl, .inr ⟨0, d, rfl, rfl, ?_⟩⟩
        rcases e2 with ⟨e2, _⟩ | ⟨k, d', h1, _⟩
        · exact e2
        · exact absurd (List.mem_of_getElem? h1) nd'.1
    · have e1' : ρ[j]? = some s' := by
        cases e3 : ρ[i]? with
        | none => rw [e3] at e1; exact e1
        | some s => rw [e3] at e1; simp only at e1; rw [List.getElem?_set_ne ij] at e1; exact e1
      refine ⟨s', e1', ?_⟩
      rcases e2 with ⟨e2, e4⟩ | ⟨k, d', h1, h2, h3⟩
      · refine .inl ⟨e2, fun hj => ?_⟩
        rcases List.mem_cons.mp hj with z | z
        · exact absurd z.symm ij
        · have := e4 z
          simp only [List.length_cons]
          omega
      · exact .inr ⟨k + 1, d', by simpa using h1, by simpa using h2, h3⟩
theorem with_mine {s : Sl} {d : D} (h : s.mine ≠ none) : (s.with d).mine = some d := by
  cases s with
  | u => exact absurd rfl h
  | v _ => exact absurd rfl h
  | e _ => exact absurd rfl h
  | o _ => rfl
  | b _ => rfl
theorem AtSl.nodup {is : List Nat} {ps : List Addr} (h : AtSl σ ρ is ps) : is.Nodup := by
  induction h with
  | nil => exact List.nodup_nil
  | cons _ _ _ n _ ih => exact List.nodup_cons.mpr ⟨n, ih⟩
theorem AtSl.len {is : List Nat} {ps : List Addr} (h : AtSl σ ρ is ps) : is.length = ps.length := by
  induction h with
  | nil => rfl
  | cons _ _ _ _ _ ih => rw [List.length_cons, List.length_cons, ih]
/-- behind a call -/
theorem St.after {is : List Nat} {ps : List Addr} {os : List D} (S : St B F σ H ρ) (at_ : AtSl σ ρ is ps) (A : After B.c F H F' H' ps os) : St B F' σ H' (updS ρ is os) := by
  have nd := at_.nodup
  have hl : is.length = os.length := by rw [at_.len, outs_len A.os]
  have back : ∀ (j : Nat) (t : Sl), (updS ρ is os)[j]? = some t → ∃ s, ρ[j]? = some s ∧ ((t = s ∧ j ∉ is) ∨ ∃ (k : Nat) (d : D) (p : Addr), is[k]? = some j ∧ os[k]? = some d ∧ t = s.with d ∧ ps[k]? = some p ∧ σ[j]? = some (some (.ref p)) ∧ s.mine ≠ none) := fun j t h => by
    obtain ⟨s, e1, e2⟩ := updS_at nd h
    refine ⟨s, e1, ?_⟩
    rcases e2 with ⟨e2, e3⟩ | ⟨k, d, h1, h2, h3⟩
    · exact .inl ⟨e2, fun z => e3 z hl⟩
    · obtain ⟨p, s', q1, q2, q3, q4⟩ := at_.get h1
      rw [e1] at q3
      cases q3
      exact .inr ⟨k, d, p, h1, h2, h3, q1, q2, q4⟩
  have backm : ∀ (j : Nat) (t : Sl), (updS ρ is os)[j]? = some t → t.mine ≠ none → ∃ s, ρ[j]? = some s ∧ s.mine ≠ none := fun j t h hm => by
    obtain ⟨s, e1, e2⟩ := back j t h
    rcases e2 with ⟨e2, _⟩ | ⟨k, d, p, _, _, _, _, _, e3⟩
    · exact ⟨s, e1, by rw [← e2]; exact hm⟩
    · exact ⟨s, e1, e3⟩
  have apart : ∀ (j : Nat) (s : Sl) (p : Addr), ρ[j]? = some s → s.mine ≠ none → σ[j]? = some (some (.ref p)) → j ∉ is → p ∉ ps := fun j s p h1 h2 h3 h4 h5 => by
    obtain ⟨i, s', m1, m2, m3, m4⟩ := at_.mem p h5
    have := S.sep j i s s' p h1 m3 h2 m4 h3 m2
    subst this
    exact h4 m1
  have there : ∀ (p : Addr) (d : D), Own B.c F H p d → ∃ o, H p = some o := fun p d h => by
    cases e : H p with
    | none => exact absurd e h.there
    | some o => exact ⟨o, rfl⟩
  refine ⟨by rw [updS_len]; exact S.len, A.ex, fun j t x h1 h2 => ?_, fun i j s t p h1 h2 h3 h4 h5 h6 => ?_, fun q o h1 h2 => ?_, S.low.trans A.f, fun q h1 h2 => A.new q (S.dom q h1) (S.new q h1 h2), fun q h => A.dom q (S.dom q h), S.iow⟩
  · obtain ⟨s, e1, e2⟩ := back j t h1
    have q := S.sl j s x e1 h2
    rcases e2 with ⟨rfl, e3⟩ | ⟨k, d, p, e3, e4, rfl, e5, e6, e7⟩
    · cases t with
      | u => exact True.intro
      | v d => obtain ⟨v, a1, a2⟩ := q; exact ⟨v, a1, a2.ex A.f⟩
      | o d =>
        obtain ⟨p, rfl, a2, a3, a4⟩ := q
        obtain ⟨o, ho⟩ := there p d a4
        exact ⟨p, rfl, A.new p a4.there a2, a3, a4.ex A.f ((A.keep p o ho (apart j _ p e1 (by intro z; cases z) h2 e3)).trans ho.symm)⟩
      | b d =>
        obtain ⟨p, rfl, a2, a3, a4⟩ := q
        obtain ⟨o, ho⟩ := there p d a4
        exact ⟨p, rfl, A.new p a4.there a2, a3, a4.ex A.f ((A.keep p o ho (apart j _ p e1 (by intro z; cases z) h2 e3)).trans ho.symm)⟩
      | e n => exact q
    · rw [e6] at h2
      cases h2
      have own := outs_get A.os e5 e4
      cases s with
      | u => exact absurd rfl e7
      | v _ => exact absurd rfl e7
      | e _ => exact absurd rfl e7
      | o d' =>
        obtain ⟨p', z, a2, a3, a4⟩ := q
        cases z
        exact ⟨p, rfl, A.new p a4.there a2, a3, own⟩
      | b d' =>
        obtain ⟨p', z, a2, a3, a4⟩ := q
        cases z
        exact ⟨p, rfl, A.new p a4.there a2, a3, own⟩
  · obtain ⟨s', a1, a2⟩ := backm i s h1 h3
    obtain ⟨t', b1, b2⟩ := backm j t h2 h4
    exact S.sep i j s' t' p a1 b1 a2 b2 h5 h6
  · refine A.keep q o (S.keep q o h1 h2) fun hq => ?_
    obtain ⟨i, s, m1, m2, m3, m4⟩ := at_.mem q hq
    have r := S.sl i s _ m3 m2
    cases s with
    | u => exact m4 rfl
    | v _ => exact m4 rfl
    | e _ => exact m4 rfl
    | o d => obtain ⟨p, z, _, a3, _⟩ := r; cases z; rw [a3] at h1; cases h1
    | b d => obtain ⟨p, z, _, a3, _⟩ := r; cases z; exact h2 i a3
theorem pass_ok : ∀ {ms : List Bool} {rs : List Res} {xs : List V} {ds : List D} {is : List Nat} {F : Hp} {ρ ρ' : Env}, St B F σ H ρ → RessOk B F σ H ρ rs xs → pass ρ ms rs = some (ds, is, ρ') → ∃ F' ps, Ex F F' ∧ St B F' σ H ρ' ∧ Args B.c F' H ms ds xs ps ∧ AtSl σ ρ' is ps
  | [], [], _, _, _, F, ρ, ρ', S, .nil, h => by
    cases h
    exact ⟨F, [], Ex.refl F, S, .nil, .nil⟩
  | [], _ :: _, _, _, _, F, ρ, ρ', S, R, h => by simp [pass] at h
  | false :: ms, [], _, _, _, F, ρ, ρ', S, R, h => by simp [pass] at h
  | true :: ms, [], _, _, _, F, ρ, ρ', S, R, h => by simp [pass] at h
  | true :: ms, .v _ :: _, _, _, _, F, ρ, ρ', S, R, h => by simp [pass] at h
  | true :: ms, .f _ :: _, _, _, _, F, ρ, ρ', S, R, h => by simp [pass] at h
  | false :: ms, r :: rs, _, ds, is, F, ρ, ρ', S, .cons n R1 R2, h => by
    simp only [pass] at h
    cases e1 : frzR ρ r with
    | none => rw [e1] at h; cases h
    | some w =>
      obtain ⟨d, ρ1⟩ := w
      rw [e1] at h
      simp only at h
      cases e2 : pass ρ1 ms rs with
      | none => rw [e2] at h; cases h
      | some w =>
        obtain ⟨ds', is', ρ2⟩ := w
        rw [e2] at h
        cases h
        obtain ⟨F1, x1, S1, q1⟩ := frzR_ok S R1 e1
        obtain ⟨F2, ps, x2, S2, a2, t2⟩ := pass_ok S1 (R2.move x1) e2
        exact ⟨F2, ps, x1.trans x2, S2, .val (q1.ex x2) a2, t2⟩
  | true :: ms, .s i :: rs, _, ds, is, F, ρ, ρ', S, .cons (x := x) n R1 R2, h => by
    simp only [pass] at h
    cases e2 : pass ρ ms rs with
    | none => rw [e2] at h; cases h
    | some w =>
      obtain ⟨ds', is', ρ2⟩ := w
      rw [e2] at h
      simp only at h
      split at h
      · cases h
      · rename_i hi
        cases e3 : mineAt ρ2 i with
        | none => rw [e3] at h; cases h
        | some w =>
          obtain ⟨s, d⟩ := w
          rw [e3] at h
          cases h
          obtain ⟨F2, ps, x2, S2, a2, t2⟩ := pass_ok S R2 e2
          obtain ⟨p, hσ, hF, ho⟩ := mine_at S2 e3
          have R1 : σ[i]? = some (some x) := R1
          rw [hσ] at R1
          cases R1
          obtain ⟨m1, m2⟩ := mineAt_eq e3
          have mm : s.mine ≠ none := by rw [m2]; exact Option.some_ne_none _
          refine ⟨F2, p :: ps, x2, S2, .io hF ho (fun hp => ?_) a2, .cons hσ m1 mm hi t2⟩
          obtain ⟨j, s', j1, j2, j3, j4⟩ := t2.mem p hp
          have := S2.sep i j s s' p m1 j3 mm j4 hσ j2
          subst this
          exact hi j1
/-- own objects lent to be read -/
theorem lend_ok (S : St B F σ H ρ) : ∀ {rs : List Res} {xs : List V} {ds : List D} {F0 : Hp}, Ex F F0 → Ex F0 H → (∀ q, F q = none → F0 q = none ∨ F0 q = H q) → RessOk B F σ H ρ rs xs → looks ρ rs = some ds → ∃ F1, Ex F0 F1 ∧ Ex F1 H ∧ Reps B.c F1 ds xs
  | [], _, _, F0, e0, e, hq, .nil, hl => by cases hl; exact ⟨F0, Ex.refl F0, e, .nil⟩
  | r :: rs, x :: xs, _, F0, e0, e, hq, .cons n R1 R2, hl => by
    simp only [looks] at hl
    cases e1 : look ρ r with
    | none => simp only [e1] at hl; cases hl
    | some d =>
      cases e2 : looks ρ rs with
      | none => simp only [e1, e2] at hl; cases hl
      | some ds =>
        simp only [e1, e2] at hl
        cases hl
        have own : ∀ p, F p = none → Own B.c F H p d → x = .ref p → ∃ F1, Ex F0 F1 ∧ Ex F1 H ∧ Rep B.c F1 d x ∧ ∀ q, F q = none → F1 q = none ∨ F1 q = H q := fun p hF o hx => by
          subst hx
          cases hp : F0 p with
          | none =>
            obtain ⟨ob, ho, r⟩ := (o.ex e0 rfl).froze hp
            refine ⟨upd F0 p ob, Ex.new hp, e.take ho, r, fun q h => ?_⟩
            by_cases z : q = p
            · subst z; exact .inr (by rw [upd_same]; exact ho.symm)
            · rw [upd_ne z]; exact hq q h
          | some ob =>
            have same : F0 p = H p := by
              rcases hq p hF with z | z
              · rw [hp] at z; cases z
              · exact z
            refine ⟨F0, Ex.refl F0, e, ?_, hq⟩
            cases o with
            | lst h r => exact .lst (same.trans h) (r.ex e0)
            | dK h r => exact .dK (.inl (same.trans h)) (r.ex e0)
            | dT h r => exact .dT (.inl (same.trans h)) (r.ex e0)
        have rep : Rep B.c F d x → ∃ F1, Ex F0 F1 ∧ Ex F1 H ∧ Rep B.c F1 d x ∧ ∀ q, F q = none → F1 q = none ∨ F1 q = H q := fun r => ⟨F0, Ex.refl F0, e, r.ex e0, hq⟩
        have step : ∃ F1, Ex F0 F1 ∧ Ex F1 H ∧ Rep B.c F1 d x ∧ ∀ q, F q = none → F1 q = none ∨ F1 q = H q := by
          cases r with
          | v d' => cases e1; exact rep R1
          | f d' => exact absurd rfl (n d')
          | s i =>
            have R1 : σ[i]? = some (some x) := R1
            simp only [look] at e1
            cases e3 : ρ[i]? with
            | none => rw [e3] at e1; cases e1
            | some s =>
              have w := S.sl i s _ e3 R1
              rw [e3] at e1
              cases s with
              | u => cases e1
              | e _ => cases e1
              | v d' => cases e1; obtain ⟨v, z, r⟩ := w; cases z; exact rep r
              | o d' => cases e1; obtain ⟨p, z, r, _, o⟩ := w; cases z; exact own p r o rfl
              | b d' => cases e1; obtain ⟨p, z, r, _, o⟩ := w; cases z; exact own p r o rfl
        obtain ⟨F1, a1, a2, a3, a4⟩ := step
        obtain ⟨F2, b1, b2, b3⟩ := lend_ok S (e0.trans a1) a2 a4 R2 e2
        exact ⟨F2, a1.trans b1, b2, .cons (a3.ex b1) b3⟩
theorem scal_rep {c : Ct} {d : D} {v : V} (hs : scal d = true) (h : Rep c F d v) : Rep c F' d v := by
  cases h with
  | non => exact .non
  | bl b => exact .bl b
  | int i => exact .int i
  | str s => exact .str s
  | lst _ _ => simp [scal] at hs
  | tup _ _ => simp [scal] at hs
  | dK _ _ => simp [scal] at hs
  | dT _ _ => simp [scal] at hs
  | scr _ _ => simp [scal] at hs
theorem args_val {c : Ct} {ds : List D} {xs : List V} (r : Reps c F ds xs) {ms : List Bool} (hm : ms = List.replicate ds.length false) : Args c F H ms ds xs [] := by
  subst hm
  have go : ∀ {ds : List D} {xs : List V}, Reps c F ds xs → Args c F H (List.replicate ds.length false) ds xs [] := by
    intro ds
    induction ds with
    | nil => intro xs r; cases r; exact .nil
    | cons d ds ih =>
      intro xs r
      cases r with
      | cons h t => exact .val h (ih t)
  exact go r
end
section
variable {X : Cx} {B : Bs} {W : WX} {x : Expr} {xs : List Expr} {a b d : Ev} {pos p : Pos} {t : EvA} {F H : Hp} {σ : L2.St} {ρ : Env} {Q : VK}
theorem frz_look {ρ ρ1 : Env} {r : Res} {d : D} (h : frzR ρ r = some (d, ρ1)) : look ρ r = some d ∧ ∀ r', look ρ1 r' = look ρ r' := by
  cases r with
  | v d' => cases h; exact ⟨rfl, fun _ => rfl⟩
  | f d' => cases h; exact ⟨rfl, fun _ => rfl⟩
  | s i =>
    simp only [frzR] at h
    cases e : ρ[i]? with
    | none => rw [e] at h; cases h
    | some s =>
      rw [e] at h
      cases s with
      | u => cases h
      | e _ => cases h
      | b _ => cases h
      | v d' => cases h; exact ⟨by simp only [look, e], fun _ => rfl⟩
      | o d' =>
        cases h
        refine ⟨by simp only [look, e], fun r' => ?_⟩
        cases r' with
        | v _ => rfl
        | f _ => rfl
        | s j =>
          simp only [look]
          by_cases ij : i = j
          · subst ij
            rw [List.getElem?_set_self (get_lt e), e]
          · rw [List.getElem?_set_ne ij]
theorem looks_eq {ρ ρ1 : Env} (h : ∀ r', look ρ1 r' = look ρ r') : ∀ rs, looks ρ1 rs = looks ρ rs
  | [] => rfl
  | r :: rs => by rw [looks, looks, h, looks_eq h]
theorem frz_looks : ∀ {rs : List Res} {ds es : List D} {ρ ρ' : Env}, looks ρ rs = some ds → frzs ρ rs = some (es, ρ') → es = ds
  | [], _, _, ρ, ρ', h1, h2 => by cases h1; cases h2; rfl
  | r :: rs, ds, es, ρ, ρ', h1, h2 => by
    simp only [frzs] at h2
    cases e1 : frzR ρ r with
    | none => rw [e1] at h2; cases h2
    | some w =>
      obtain ⟨d, ρ1⟩ := w
      rw [e1] at h2
      simp only at h2
      cases e2 : frzs ρ1 rs with
      | none => rw [e2] at h2; cases h2
      | some w =>
        obtain ⟨ds', ρ2⟩ := w
        rw [e2] at h2
        cases h2
        obtain ⟨a, b⟩ := frz_look e1
        simp only [looks, a] at h1
        cases e3 : looks ρ rs with
        | none => rw [e3] at h1; cases h1
        | some ds3 =>
          rw [e3] at h1
          cases h1
          rw [frz_looks (by rw [looks_eq b]; exact e3) e2]
/-- behind a call that changed no parameter: no more is known than ahead -/
theorem St.calm {F1 F' H' : Hp} (S : St B F σ H ρ) (e : Ex F F1) (A : After B.c F1 H F' H' [] []) : St B F σ H' ρ := by
  have kp : ∀ q o, H q = some o → H' q = some o := fun q o h => A.keep q o h (by simp)
  exact S.grow ⟨Ex.refl F, kp, (e.trans A.f).trans A.ex, fun _ _ h => h⟩
theorem St.aft0 {F' H' : Hp} (S : St B F σ H ρ) (A : After B.c F H F' H' [] []) : St B F' σ H' ρ :=
  S.grow ⟨A.f, fun q o h => A.keep q o h (by simp), A.ex, A.new⟩
theorem outs_nil {c : Ct} {F H F' H' : Hp} {os : List D} (A : After c F H F' H' [] os) : os = [] := by
  have := A.os
  cases this
  rfl
theorem call_ok {f : Fn} {n : Nat} (h : tE B W (eCall n f t) σ H Q) : tCallSD (spD B.c B.ec (List.replicate n false) f) [] (WE W) (tA B W t) σ H Q := by
  obtain ⟨F, ρ, S, h⟩ := h
  refine abd_ok S h fun rs ρ1 F1 H1 xs e1 S1 R1 h1 => ?_
  rw [List.append_nil]
  cases hl : looks ρ1 rs with
  | none => simp only [hl] at h1; exact h1.elim
  | some ds =>
    simp only [hl] at h1
    split at h1
    · rename_i hn
      subst hn
      have lent : (∀ F2, Ex F1 F2 → FOk B.c B.ec F2 H1 [] Q (WE W σ) (f ds)) → spD B.c B.ec (List.replicate ds.length false) f xs H1 Q (WE W σ) := fun k => by
        obtain ⟨F2, a1, a2, a3⟩ := lend_ok S1 (Ex.refl F1) S1.ex (fun q h => .inl h) R1 hl
        exact ⟨F2, ds, [], a2, args_val a3 rfl, k F2 a1⟩
      have froz : ∀ es ρ2, frzs ρ1 rs = some (es, ρ2) → (∀ F2, Ex F1 F2 → St B F2 σ H1 ρ2 → FOk B.c B.ec F2 H1 [] Q (WE W σ) (f ds)) → spD B.c B.ec (List.replicate ds.length false) f xs H1 Q (WE W σ) := fun es ρ2 e k => by
        obtain ⟨F2, x2, S2, q2⟩ := frzs_ok S1 R1 e
        have := frz_looks hl e
        subst this
        exact ⟨F2, es, [], S2.ex, args_val q2 rfl, k F2 x2 S2⟩
      cases ef : f ds with
      | bad => rw [ef] at h1; exact h1.elim
      | ex c os =>
        rw [ef] at h1
        refine lent fun F2 x2 => ?_
        rw [ef]
        intro F' H' A
        have := outs_nil A
        subst this
        exact h1 F1 H' (Ex.refl _) (S1.calm x2 A)
      | ret d os =>
        rw [ef] at h1
        simp only [endCall] at h1
        split at h1
        · rename_i hs
          refine lent fun F2 x2 => ?_
          rw [ef]
          intro F' H' v A r
          have := outs_nil A
          subst this
          exact h1 F1 H' v (Ex.refl _) (S1.calm x2 A) (scal_rep hs r)
        · cases e2 : frzs ρ1 rs with
          | none => rw [e2] at h1; exact h1.elim
          | some w =>
            obtain ⟨es, ρ2⟩ := w
            rw [e2] at h1
            refine froz es ρ2 e2 fun F2 x2 S2 => ?_
            rw [ef]
            intro F' H' v A r
            have := outs_nil A
            subst this
            exact h1 F' H' v (x2.trans A.f) (S2.aft0 A) r
      | own d os =>
        rw [ef] at h1
        simp only [endCall] at h1
        cases e2 : frzs ρ1 rs with
        | none => rw [e2] at h1; exact h1.elim
        | some w =>
          obtain ⟨es, ρ2⟩ := w
          rw [e2] at h1
          refine froz es ρ2 e2 fun F2 x2 S2 => ?_
          rw [ef]
          intro F' H' p A hF hp ho
          have := outs_nil A
          subst this
          refine h1 F' H' _ (x2.trans A.f) (S2.aft0 A) ⟨p, rfl, hF, S2.fresh hp, ho, fun i s m1 m2 m3 => ?_⟩
          have q := S2.sl i s _ m1 m3
          cases e : s.mine with
          | none => exact m2 e
          | some d' =>
            obtain ⟨a, z1, _, z3⟩ := q.mine e
            cases z1
            exact z3.there hp
    · exact h1.elim
theorem callM_ok {f : Fn} {ms : List Bool} (h : tE B W (eCallM ms f t) σ H Q) : tCallSD (spD B.c B.ec ms f) [] (WE W) (tA B W t) σ H Q := by
  obtain ⟨F, ρ, S, h⟩ := h
  refine abd_ok S h fun rs ρ1 F1 H1 xs e1 S1 R1 h1 => ?_
  rw [List.append_nil]
  cases hl : pass ρ1 ms rs with
  | none => simp only [hl] at h1; exact h1.elim
  | some w =>
    obtain ⟨ds, is, ρ2⟩ := w
    simp only [hl] at h1
    obtain ⟨F2, ps, x2, S2, a2, t2⟩ := pass_ok S1 R1 hl
    refine ⟨F2, ds, ps, S2.ex, a2, ?_⟩
    cases ef : f ds with
    | bad => rw [ef] at h1; exact h1.elim
    | ex c os =>
      rw [ef] at h1
      exact fun F' H' A => h1 F' H' (x2.trans A.f) (S2.after t2 A)
    | ret d os =>
      rw [ef] at h1
      exact fun F' H' v A r => h1 F' H' v (x2.trans A.f) (S2.after t2 A) r
    | own d os =>
      rw [ef] at h1
      intro F' H' p A hF hp ho
      refine h1 F' H' _ (x2.trans A.f) (S2.after t2 A) ⟨p, rfl, hF, S2.fresh hp, ho, fun i s m1 m2 m3 => ?_⟩
      have nd := t2.nodup
      obtain ⟨s', g1, g2⟩ := updS_at nd m1
      have mm : s'.mine ≠ none := by
        rcases g2 with ⟨g2, _⟩ | ⟨k, d', g3, g4, g5⟩
        · rw [← g2]; exact m2
        · obtain ⟨p', s'', q1, q2, q3, q4⟩ := t2.get g3
          rw [g1] at q3
          cases q3
          exact q4
      have q := S2.sl i s' _ g1 m3
      cases e : s'.mine with
      | none => exact mm e
      | some d' =>
        obtain ⟨a, z1, _, z3⟩ := q.mine e
        cases z1
        exact z3.there hp
theorem d_call {k n : Nat} {g : Addr} {fd : FuncData} {ps : List Str} {nm : Str} {f : Fn} (Fo : FnOk X.prog X.w X.K X.mg X.base (L2N.CX X.prog X.w) k g fd ps (spD B.c B.ec (List.replicate n false) f)) (hr : Room k X.A) (hg : Gl X nm) (hm : X.mg nm = some (.ref g)) (hk : PySem.W.keepIn X.K (.ref g) = true)
    (hb : Binds X.K fd ps []) (tk : L2N.Takes X W) (ha : PAD X B W (x :: xs) t) (hdb : (nm == ("__debug__" : Str)) = false := by decide) (he : starEach (x :: xs) X.env = (false, eval x X.env) :: starEach xs X.env := by rfl) (hpl : (backTo pos (starEach xs X.env)).any (·.1) = false := by rfl) :
    PED X B W (.Call (.Name nm p) (x :: xs) [] pos) (eCall n f t) :=
  pe_wk (pe_callSD Fo hr hg hm hk hb .nil (fun σ => L2N.passAt tk σ) ha hdb he hpl) fun σ H Q h => call_ok h
theorem d_callM {k : Nat} {ms : List Bool} {g : Addr} {fd : FuncData} {ps : List Str} {nm : Str} {f : Fn} (Fo : FnOk X.prog X.w X.K X.mg X.base (L2N.CX X.prog X.w) k g fd ps (spD B.c B.ec ms f)) (hr : Room k X.A) (hg : Gl X nm) (hm : X.mg nm = some (.ref g)) (hk : PySem.W.keepIn X.K (.ref g) = true)
    (hb : Binds X.K fd ps []) (tk : L2N.Takes X W) (ha : PAD X B W (x :: xs) t) (hdb : (nm == ("__debug__" : Str)) = false := by decide) (he : starEach (x :: xs) X.env = (false, eval x X.env) :: starEach xs X.env := by rfl) (hpl : (backTo pos (starEach xs X.env)).any (·.1) = false := by rfl) :
    PED X B W (.Call (.Name nm p) (x :: xs) [] pos) (eCallM ms f t) :=
  pe_wk (pe_callSD Fo hr hg hm hk hb .nil (fun σ => L2N.passAt tk σ) ha hdb he hpl) fun σ H Q h => callM_ok h
end
end Pd
end
section
set_option Elab.async false
set_option linter.all false
set_option maxRecDepth 100000
set_option maxHeartbeats 4000000
/-! a list, and a comprehension over it, where an exception is being handled -/
namespace HT2
open PySem PySem.Spec PyProof.Rows L2 L2H HotX
abbrev Sg := L2.St
section
variable {prog : Program} {w : World} {A : Around} {E : Value → Shared → Prop} {s : Shared}
/-- a list's iterator at its end, while x1 is handled -/
theorem lst_end {it l x1 : Addr} {i : Nat} {zs : Array Value} {Q : Option Value → Shared → Prop} (hot : HotAt A x1 s.heap) (ne : x1 ≠ it) (hi : s.heap.IsListIter it l i) (hl : s.heap.IsList l zs) (hx : zs[i]? = none)
    (hQ : ∀ h', Heap.ExtBut it s.heap h' → Q none { s with heap := h' }) : wpAny (model prog w) A (pyNext (.ref it)) Q E s := by
  obtain ⟨o, ho, hc, hd⟩ := id hi
  obtain ⟨ol, hol, _, nl, hdl⟩ := hl
  obtain ⟨hh, o1, vs1, h1, d1, c1⟩ := hot
  unfold pyNext
  refine wpAny_bind <| wpAny_attempt <| wpAny_callSpecial?_slot (name := Str.ofString "__next__") hi.typeIs slot_listiter_next <|
    wpAny_call_entry slot_listiter_next hi.typeIs entry_listiter_next ?_ (args_listiter_next _)
  show wpAny _ _ (field (.ref it) 0 >>= _) _ _ s
  refine wpAny_bind <| wpAny_field ho hd (x := .ref l) rfl ?_
  show wpAny _ _ (if (Value.ref l == Value.none) = true then _ else _) _ _ s
  rw [if_neg (show (Value.ref l == Value.none) ≠ true from Bool.false_ne_true)]
  show wpAny _ _ (field (.ref it) 1 >>= _) _ _ s
  refine wpAny_bind <| wpAny_field ho hd (x := .int i 0) rfl ?_
  show wpAny _ _ (seqItems? (.ref l) >>= _) _ _ s
  refine wpAny_bind <| wpAny_seqItems hol hdl ?_
  simp only [Int.toNat_natCast, hx]
  refine wpAny_bind <| wpAny_rule <| wpAny_bind <| wpAny_setField ho hd (by simp) ?_
  show wpAny _ _ (newExc (.type "StopIteration") [] >>= _) _ _ _
  refine wpAny_bind ?_
  simp only [newExc, newTuple]
  refine wpAny_bind <| wpAny_newObj_type ?_ (by size_fits)
  refine wpAny_bind (m := firstArgMember _ _) <| wpAny_of_eq (a := Value.none) (by first | rfl | (simp only [firstArgMember]; rfl)) ?_
  refine wpAny_newObj_type ?_ (by size_fits)
  have u1 : (s.heap.update it (Obj.mapFields (·.setIfInBounds 0 .none))).get? x1 = some o1 := (Heap.get?_update_other _ _ (Ne.symm ne)).trans h1
  have u2 := Heap.get?_push_of_some { cls := Value.type "tuple", data := Data.seq #[] } u1
  refine raiseNew_hot ⟨hh, o1, vs1, Heap.get?_push_of_some _ u2, d1, c1⟩ (Nat.ne_of_lt <| Heap.lt_size u2) (Heap.get?_push_size _ rfl) rfl ?_ ?_
  · first
    | (simp; done)
    | (simp; omega)
    | (simp only [Array.size_append]; simp; omega)
  refine wpAny_bind <| wpAny_isInstance (T := "StopIteration") (b := true) ⟨_, Heap.get?_update_self _ (Heap.get?_push_size _ rfl) rfl, rfl⟩ isSubtype_stop ?_
  refine wpAny_pure (hQ _ ?_)
  intro b o hb e
  have e1 : (s.heap.update it (Obj.mapFields (·.setIfInBounds 0 .none))).get? b = some o := (Heap.get?_update_other _ _ (Ne.symm hb)).trans e
  have e2 := Heap.get?_push_of_some { cls := Value.type "tuple", data := Data.seq #[] } e1
  rw [Heap.get?_update_other _ _ (Nat.ne_of_gt <| Heap.lt_size e2)]
  exact Heap.get?_push_of_some _ e2
/-- a tuple's iterator at its end, while x1 is handled -/
theorem tup_end {it l x1 : Addr} {i : Nat} {zs : Array Value} {Q : Option Value → Shared → Prop} (hot : HotAt A x1 s.heap) (ne : x1 ≠ it) (hi : IsTupIter s.heap it l i) (hl : IsTup s.heap l zs) (hx : zs[i]? = none)
    (hQ : ∀ h', Heap.ExtBut it s.heap h' → Q none { s with heap := h' }) : wpAny (model prog w) A (pyNext (.ref it)) Q E s := by
  obtain ⟨o, ho, hc, hd⟩ := id hi
  obtain ⟨ol, hol, _, nl, hdl⟩ := hl
  obtain ⟨hh, o1, vs1, h1, d1, c1⟩ := hot
  unfold pyNext
  refine wpAny_bind <| wpAny_attempt <| wpAny_callSpecial?_slot (name := Str.ofString "__next__") hi.typeIs slot_tupleiter_next <|
    wpAny_call_entry slot_tupleiter_next hi.typeIs entry_tupleiter_next ?_ (args_tupleiter_next _)
  show wpAny _ _ (field (.ref it) 0 >>= _) _ _ s
  refine wpAny_bind <| wpAny_field ho hd (x := .ref l) rfl ?_
  show wpAny _ _ (if (Value.ref l == Value.none) = true then _ else _) _ _ s
  rw [if_neg (show (Value.ref l == Value.none) ≠ true from Bool.false_ne_true)]
  show wpAny _ _ (field (.ref it) 1 >>= _) _ _ s
  refine wpAny_bind <| wpAny_field ho hd (x := .int i 0) rfl ?_
  show wpAny _ _ (seqItems? (.ref l) >>= _) _ _ s
  refine wpAny_bind <| wpAny_seqItems hol hdl ?_
  simp only [Int.toNat_natCast, hx]
  refine wpAny_bind <| wpAny_rule <| wpAny_bind <| wpAny_setField ho hd (by simp) ?_
  show wpAny _ _ (newExc (.type "StopIteration") [] >>= _) _ _ _
  refine wpAny_bind ?_
  simp only [newExc, newTuple]
  refine wpAny_bind <| wpAny_newObj_type ?_ (by size_fits)
  refine wpAny_bind (m := firstArgMember _ _) <| wpAny_of_eq (a := Value.none) (by first | rfl | (simp only [firstArgMember]; rfl)) ?_
  refine wpAny_newObj_type ?_ (by size_fits)
  have u1 : (s.heap.update it (Obj.mapFields (·.setIfInBounds 0 .none))).get? x1 = some o1 := (Heap.get?_update_other _ _ (Ne.symm ne)).trans h1
  have u2 := Heap.get?_push_of_some { cls := Value.type "tuple", data := Data.seq #[] } u1
  refine raiseNew_hot ⟨hh, o1, vs1, Heap.get?_push_of_some _ u2, d1, c1⟩ (Nat.ne_of_lt <| Heap.lt_size u2) (Heap.get?_push_size _ rfl) rfl ?_ ?_
  · first
    | (simp; done)
    | (simp; omega)
    | (simp only [Array.size_append]; simp; omega)
  refine wpAny_bind <| wpAny_isInstance (T := "StopIteration") (b := true) ⟨_, Heap.get?_update_self _ (Heap.get?_push_size _ rfl) rfl, rfl⟩ isSubtype_stop ?_
  refine wpAny_pure (hQ _ ?_)
  intro b o hb e
  have e1 : (s.heap.update it (Obj.mapFields (·.setIfInBounds 0 .none))).get? b = some o := (Heap.get?_update_other _ _ (Ne.symm hb)).trans e
  have e2 := Heap.get?_push_of_some { cls := Value.type "tuple", data := Data.seq #[] } e1
  rw [Heap.get?_update_other _ _ (Nat.ne_of_gt <| Heap.lt_size e2)]
  exact Heap.get?_push_of_some _ e2
/-- a, b = a tuple, while x1 is handled -/
theorem tup_parts {t x1 : Addr} {zs : Array Value} {Q : List Value → Shared → Prop} (hot : HotAt A x1 s.heap) (ht : IsTup s.heap t zs) (hQ : ∀ h', Heap.ExtBut s.heap.objs.size s.heap h' → Q zs.toList { s with heap := h' }) :
    wpAny (model prog w) A (unpackItems (.ref t) zs.size none) Q E s := by
  have tne : t ≠ s.heap.objs.size := by
    obtain ⟨o, ho, _⟩ := ht
    exact Nat.ne_of_lt (Heap.lt_size ho)
  obtain ⟨hh, o1, vs1, h1, d1, c1⟩ := hot
  have xne : x1 ≠ s.heap.objs.size := Nat.ne_of_lt (Heap.lt_size h1)
  unfold unpackItems
  refine wpAny_bind ?_
  unfold notIterableAtAll
  refine wpAny_bind <| wpAny_specialOf ht.typeIs slot_tuple_iter.lookup <| wpAny_pure ?_
  simp only [Bool.false_eq_true, if_false]
  refine wpAny_bind <| wpAny_holding <| iter_tuple ht ?_
  refine wpAny_bind <| wpAny_holding <| draw_tuple tne zs.size 0 _ _ ⟨_, Heap.get?_push_size _ rfl, rfl, rfl⟩ (ht.push _) (by omega) fun k1 i1 s1 => ?_
  have whole : List.take zs.size (List.drop 0 zs.toList) = zs.toList := by
    rw [List.drop_zero]
    exact List.take_of_length_le (by simp)
  rw [whole, if_neg (by simp)]
  have t1 : IsTup k1 t zs := (ht.push _).extBut s1.extBut tne
  refine wpAny_bind <| wpAny_holding <| tup_end (x1 := x1) ⟨hh, o1, vs1, s1.extBut _ _ xne (Heap.get?_push_of_some _ h1), d1, c1⟩ xne i1 t1 (by simp) fun k2 e2 => ?_
  simp only [Option.isSome_none, Bool.false_eq_true, if_false]
  exact wpAny_pure (hQ k2 fun b o hb e => e2 b o hb (s1.extBut b o hb (Heap.get?_push_of_some _ e)))
end
/-! ### what walks a list there -/
/-- p is handled -/
def HotP (X : Cx) (pins : List (Addr × Obj)) (p : Addr × Obj) : Prop := Hot1 X.A p ∧ p ∈ X.pn ++ pins
theorem HotP.more {X : Cx} {pins : List (Addr × Obj)} {p : Addr × Obj} (h : HotP X pins p) (qs : List (Addr × Obj)) : HotP X (pins ++ qs) p := ⟨h.1, by rw [← List.append_assoc]; exact List.mem_append_left _ h.2⟩
structure TurnQ (p : Addr × Obj) (P : Program) (w : World) (K : PySem.W.Frag) (tg : Expr) (J : It) (fp : List Addr) (it : Addr) (tn : Nat → Heap → Prop) : Prop where
  obj : ∀ i h, tn i h → ∀ b ∈ fp, ∃ o, h.get? b = some o ∧ ∀ v, o.data ≠ .cell v
  keep : ∀ i h h', tn i h → (∀ b ∈ fp, ∀ o, h.get? b = some o → h'.get? b = some o) → tn i h'
  item : ∀ (X : Cx), X.prog = P → X.w = w → X.K = K → ∀ (i : Nat) (pins : List (Addr × Obj)) (s : Shared) (σ : Sg) (H : Hp) (E : Value → Shared → Prop), HotP X pins p → L2.Inv X pins σ H s → (∀ b ∈ fp, FpOk X pins H b) → tn i s.heap → J.go i H →
    wpAny (model P w) X.A (pyNext (.ref it)) (fun r s1 => ∃ u, r = some u ∧
      wpAny (model P w) X.A (letOwnedTupleGo tg (.ref it) u) (fun _ s2 => ∃ x H', L2.Inv X pins σ H' s2 ∧ RelV x u ∧ J.yld i H x H' ∧ tn (i + 1) s2.heap ∧ ∀ b ∈ fp, H' b = none) E s1) E s
  done : ∀ (X : Cx), X.prog = P → X.w = w → X.K = K → ∀ (i : Nat) (pins : List (Addr × Obj)) (s : Shared) (σ : Sg) (H : Hp) (E : Value → Shared → Prop), HotP X pins p → L2.Inv X pins σ H s → (∀ b ∈ fp, FpOk X pins H b) → tn i s.heap → J.stop i H →
    wpAny (model P w) X.A (pyNext (.ref it)) (fun r s1 => r = none ∧ L2.Inv X pins σ H s1) E s
  self : ∀ (A : Around) (i : Nat) (s : Shared) (Q : Value → Shared → Prop) (E : Value → Shared → Prop), tn i s.heap → Q (.ref it) s → wpAny (model P w) A (pyIter (.ref it)) Q E s
theorem turn_lst {p : Addr × Obj} {P : Program} {w : World} {K : PySem.W.Frag} {tg : Expr} (a it : Addr) : TurnQ p P w K tg (Itl K a) [it] it (fun i h => h.IsListIter it a i) where
  obj := fun i h st b hb => by
    rw [List.mem_singleton] at hb
    subst hb
    obtain ⟨o, e, _, d⟩ := st
    exact ⟨o, e, fun v z => by rw [d] at z; cases z⟩
  keep := fun i h h' st k => st.at fun o e => k it (List.mem_singleton.mpr rfl) o e
  item := by
    intro X hP hw hK i pins s σ H E _ I hf st hg
    subst hP hw hK
    obtain ⟨ys, y, hy, hi⟩ := hg
    obtain ⟨zs, rv, pl, _⟩ := I.list hy
    obtain ⟨u, hu, ru⟩ := rv.get hi
    obtain ⟨g0, g1, g2, g3, g4, g5⟩ := hf it (List.mem_singleton.mpr rfl)
    refine wpAny_pyNext_list_item st pl.isList (x := u) (by simpa using hu) fun h' st' sb => ?_
    have J : L2.Inv X pins σ H { s with heap := h' } := I.turned (t' := s.toks) (fun b o hb e => (sb.2 b hb).trans e) g0 g1 g3 g4 g5
    obtain ⟨o, e, c, d⟩ := id st'
    refine ⟨u, rfl, go_of (s := { s with heap := h' }) e c d (by decide) ?_⟩
    exact ⟨y, H, J, ru, ⟨rfl, fun ws hw => by rw [I.list_inj hw hy]; exact hi⟩, st', fun b hb => (hf b hb).1⟩
  done := by
    intro X hP hw hK i pins s σ H E hp I hf st hg
    subst hP hw hK
    obtain ⟨ys, hy, hi⟩ := hg
    obtain ⟨zs, rv, pl, _⟩ := I.list hy
    obtain ⟨g0, g1, g2, g3, g4, g5⟩ := hf it (List.mem_singleton.mpr rfl)
    have hl := rv.length
    obtain ⟨⟨hh, v1, e1, c1⟩, hm⟩ := hp
    refine lst_end (x1 := p.1) ⟨hh, p.2, v1, (I.pin p hm).1, e1, c1⟩ (g5 p hm) st pl.isList (by simp; omega) fun h' eb => ?_
    exact ⟨rfl, I.turned (t' := s.toks) (fun b o hb e => eb b o hb e) g0 g1 g3 g4 g5⟩
  self := fun _ _ _ _ _ st h => wpAny_pyIter_listiter st h
def PIEQ (p : Addr × Obj) (X : Cx) (pins : List (Addr × Obj)) (σ : Sg) (tg : Expr) (R : It → Hp → Prop) (v : Value) (s2 : Shared) : Prop :=
  ∃ (it : Addr) (fp : List Addr) (tn : Nat → Heap → Prop) (J : It) (H' : Hp), v = .ref it ∧ L2.Inv X pins σ H' s2 ∧ TurnQ p X.prog X.w X.K tg J fp it tn ∧ tn 0 s2.heap ∧ (∀ b ∈ fp, FpOk X pins H' b) ∧ R J H'
structure PIQ (p : Addr × Obj) (X : Cx) (tg iter : Expr) (wi : TI) : Prop where
  run : ∀ (pins : List (Addr × Obj)) (s : Shared) (σ : Sg) (H : Hp) (R : It → Hp → Prop), L2.Inv X pins σ H s → wi σ H R →
    wpAny (model X.prog X.w) X.A (eval iter X.env) (fun v s1 => wpAny (model X.prog X.w) X.A (pyIter v) (PIEQ p X pins σ tg R) X.xe s1) X.xe s
theorem pi_lst {p : Addr × Obj} {X : Cx} {tg l : Expr} {tl : TE} (hl : PE X l tl) : PIQ p X tg l (iList X.K tl) := by
  refine ⟨fun pins s σ H R I h => thn (hl.run pins s σ H _ I h) fun v s1 hv => ?_⟩
  obtain ⟨x, H1, I1, r1, a, rfl, ⟨ys, hy⟩, q⟩ := hv
  cases r1
  obtain ⟨zs, rv, pl, _⟩ := I1.list hy
  refine wpAny_pyIter_list pl.isList ?_
  refine ⟨s1.heap.objs.size, [s1.heap.objs.size], _, _, H1, rfl, I1.kept (t' := s1.toks) (fun b o e => Heap.get?_push_of_some _ e), turn_lst a _, ⟨_, Heap.get?_push_size _ rfl, rfl, rfl⟩, fun b hb => ?_, q⟩
  rw [List.mem_singleton] at hb
  subst hb
  exact I1.fpOk (Nat.le_refl _) (I1.hok.fresh (Nat.le_refl _))
theorem pg_tupQ {p : Addr × Obj} {X : Cx} {es : List Expr} {k n : Nat} {t : TGs} {pos : Pos} (hp : Hot1 X.A p) (hpm : p ∈ X.pn) (h : PGs X es t) (hn : (assignEach es X.env).length = n := by rfl) (hst : (assignEach es X.env).findIdx? (·.1) = none := by rfl) : PG X (.Tuple es k pos) (gTup X.K n t) := by
  refine ⟨fun pins s σ H v u Q I r hw => ?_⟩
  obtain ⟨a, xs, rfl, hq, hl, hw⟩ := hw
  cases r
  obtain ⟨its, rv, ht, _⟩ := I.tuple hq
  obtain ⟨hh, v1, e1, c1⟩ := hp
  have hot : HotAt X.A p.1 s.heap := ⟨hh, p.2, v1, (I.pin p (List.mem_append_left _ hpm)).1, e1, c1⟩
  have lenE : (assignEach es X.env).length = its.toArray.size := by rw [hn, ← hl, rv.length, List.size_toArray]
  rw [assign_Tuple]
  refine wpAny_bind (wpAny_standAt ?_)
  unfold unpack
  rw [lenE, hst]
  refine wpAny_bind <| wpAny_holding <| tup_parts hot ht fun h' hx => ?_
  have J : L2.Inv X pins σ H { s with heap := h' } := I.kept (t' := s.toks) fun b o e => hx b o (Nat.ne_of_lt (Heap.lt_size e)) e
  exact h.run pins _ σ H xs _ Q J (by simpa using rv) hw
/-- a comprehension's block there -/
abbrev blkQ (p : Addr × Obj) (X : Cx) (s : Shared) (H : Hp) (scope : Scope) (env : PySem.Env) (fp : List Addr) : Cx := (X.blk s H scope env fp).tr [p] fun _ _ => False
/-- a list comprehension over what PIQ walks -/
theorem lcQ {p : Addr × Obj} {X : Cx} {pins : List (Addr × Obj)} {s : Shared} {σ : Sg} {H : Hp} {Q : VK} {elt tg iter : Expr} {ifs : List Expr} {scope : Scope} {own : List (Str × Nat)} {pos pos' : Pos} {wi : TI} {g : TG} {tt : TT} {te : TE} {use : Option (Value → Sem Unit)} {Qf : Value → Shared → Prop}
    (hp : Hot1 X.A p) (hpm : p ∈ X.pn) (hN : X.N.Nodup) (I : L2.Inv X pins σ H s) (hi : PIQ p X tg iter wi) (ok : BlkOk X.N X.env.scope scope own)
    (hg : ∀ (s : Shared) (H : Hp) (C : Addr) (cl : List (Str × Addr)) (fp : List Addr), PG (blkQ p X s H scope (compEnvC scope cl C X.env) fp) tg g)
    (ht : ∀ (s : Shared) (H : Hp) (C : Addr) (cl : List (Str × Addr)) (fp : List Addr), PTs (blkQ p X s H scope (compEnvC scope cl C X.env) fp) ifs tt)
    (he : ∀ (s : Shared) (H : Hp) (C : Addr) (cl : List (Str × Addr)) (fp : List Addr), PE (blkQ p X s H scope (compEnvC scope cl C X.env) fp) elt te)
    (hs : ∀ x, foldedSetIterable iter X.env x = pure x) (h : tLc wi g tt te (own.map (·.2)) σ H Q)
    (hEnd : ∀ (L C : Addr) (s' : Shared) (m : Str → Option Value) (H' : Hp), L2.Inv X pins σ H' s' → Q (.ref L) H' → s'.heap.Ns C m → FpOk X pins H' C → compPost (model X.prog X.w) X.A X.xe use Qf (.ref L) C (.ok .next) s') :
    wpAny (model X.prog X.w) X.A (comprehension (.ListComp elt [⟨tg, iter, ifs, 0⟩] scope pos) scope X.env pos' (newList []) false (eval iter X.env) use) Qf X.xe s := by
  have hfree : ∀ y ∈ scope.names, y.2 = .free → ∃ c, X.env.cells.lookup y.1 = some c := fun y hy e => (ok.free y hy e).elim (fun k => I.ok.has _ (.inl k)) fun k => I.ok.has _ (.inr k)
  refine wpAny_comprehension_free (use := use) rfl hs (closure_ok hfree) ok.kind (fun y hy e => by rw [ok.uniq y hy, e]) <|
    thn (hi.run pins s σ H _ I h) fun xv s1 hx => thn hx fun itv s2 h2 => ?_
  obtain ⟨it, fp, tn, J, H2, rfl, I2, T, st2, f2, q⟩ := h2
  refine wpAny_newObj_type (newEnv_comp ?_) (by show 0 ≤ sizeLine; decide)
  generalize hD : s2.heap.objs.size = L
  have hLn : H2 L = none := I2.hok.fresh (Nat.le_of_eq hD)
  obtain ⟨W, ⟨m0, w0⟩, turn⟩ := q L hLn
  generalize hs3 : ({ s2 with heap := s2.heap.push { cls := .type "list", data := .seq ([] : List Value).toArray } } : Shared) = s3
  have I3 : L2.Inv X pins σ (upd H2 L (.lst [])) s3 := by
    rw [← hs3]
    refine I2.laid (t' := s2.toks) (fun b o e => Heap.get?_push_of_some _ e) (Nat.le_of_eq hD) ⟨Nat.zero_le _, [], 0, .nil, ?_⟩
    rw [← hD]
    exact Heap.get?_push_size _ rfl
  have h3 : s3.heap = s2.heap.push { cls := .type "list", data := .seq ([] : List Value).toArray } := by rw [← hs3]
  have f3 : ∀ b ∈ fp, FpOk X pins (upd H2 L (.lst [])) b ∧ b < s3.heap.objs.size := fun b hb => by
    have hlt : b < s2.heap.objs.size := by
      obtain ⟨o, e, _⟩ := T.obj _ _ st2 b hb
      exact Heap.lt_size e
    refine ⟨⟨?_, (f2 b hb).2⟩, by rw [h3, Heap.size_push]; exact Nat.lt_succ_of_lt hlt⟩
    rw [upd_ne (by rw [← hD]; exact Nat.ne_of_lt hlt)]
    exact (f2 b hb).1
  have st3 : tn 0 s3.heap := T.keep _ _ _ st2 fun b _ o e => by rw [h3]; exact Heap.get?_push_of_some _ e
  have I4 := block_start I3 ok hN f3
  have pg := hg s3 (upd H2 L (.lst [])) s3.heap.objs.size (cellsFrom (s3.heap.objs.size + 1) scope.names (cloFrom X.env.cells scope.names [])) fp
  have pt := ht s3 (upd H2 L (.lst [])) s3.heap.objs.size (cellsFrom (s3.heap.objs.size + 1) scope.names (cloFrom X.env.cells scope.names [])) fp
  have pe := he s3 (upd H2 L (.lst [])) s3.heap.objs.size (cellsFrom (s3.heap.objs.size + 1) scope.names (cloFrom X.env.cells scope.names [])) fp
  have px := I3.pin p (List.mem_append_left _ hpm)
  have pst : p.1 ∉ frs X.stack := fun hm => (List.mem_cons.mp (I3.stkSub p.1 hm)).elim px.2.2.1 px.2.2.2.1
  have apart : ∀ b ∈ fp, p.1 ≠ b := fun b hb => (f3 b hb).1.2.2.2.2.2 p (List.mem_append_left _ hpm)
  show codeAny _ _ (.compStart (.ListComp elt [⟨tg, iter, ifs, 0⟩] scope pos) 0 (.ref it) (.ref L) (compEnvC scope (cellsFrom (s3.heap.objs.size + 1) scope.names (cloFrom X.env.cells scope.names [])) s3.heap.objs.size X.env)) (compPost (model X.prog X.w) X.A X.xe use Qf (.ref L) s3.heap.objs.size) { s3 with heap := pushCells (s3.heap.push { cls := .type "dict", data := .dict #[] }) scope.names }
  have nfp : ∀ b ∈ fp, (upd H2 L (.lst [])) b = none := fun b hb => (f3 b hb).1.1
  generalize hce : compEnvC scope (cellsFrom (s3.heap.objs.size + 1) scope.names (cloFrom X.env.cells scope.names [])) s3.heap.objs.size X.env = ce at I4 pg pt pe ⊢
  have cL : ce.locals = s3.heap.objs.size := by subst hce; rfl
  generalize hH3 : upd H2 L (.lst []) = H3 at I3 I4 pg pt pe w0 nfp f3 px
  generalize hs4 : ({ s3 with heap := pushCells (s3.heap.push { cls := .type "dict", data := .dict #[] }) scope.names } : Shared) = s4 at I4 ⊢
  have kp4 : ∀ b o, s3.heap.get? b = some o → s4.heap.get? b = some o := fun b o e => by rw [← hs4]; exact pushCells_keeps _ _ _ _ (Heap.get?_push_of_some _ e)
  have st4 : tn 0 s4.heap := T.keep _ _ _ st3 fun b _ o e => kp4 b o e
  have I5 : L2.Inv (X.blk s3 H3 scope ce fp) [p] (wipe σ (own.map (·.2))) H3 s4 := I4.pins_of fun q hq => by
    rw [List.mem_singleton] at hq
    subst hq
    exact ⟨kp4 _ _ px.1, px.2.1, by show q.1 ≠ ce.locals; rw [cL]; exact Nat.ne_of_lt (Heap.lt_size px.1), pst, px.2.2.2.2⟩
  have I6 : L2.Inv (blkQ p X s3 H3 scope ce fp) [] (wipe σ (own.map (·.2))) H3 s4 := I5.toTry _
  have hotB : ∀ qs, HotP (blkQ p X s3 H3 scope ce fp) qs p := fun qs => ⟨hp, List.mem_append_left _ (List.mem_singleton.mpr rfl)⟩
  have stat : ∀ {σ' : Sg} {H' : Hp} {s' : Shared}, L2.Inv (blkQ p X s3 H3 scope ce fp) [] σ' H' s' → (∀ b ∈ fp, H' b = none) → ∀ b ∈ fp, FpOk (blkQ p X s3 H3 scope ce fp) [] H' b := fun {σ' H' s'} I' hn b hb =>
    ⟨hn b hb, (I'.ok.exf b hb).1, I'.ok.exfs b hb, .inl hb, fun x c e => (I'.ok.exf b hb).2 x c e, fun q hq => by
      have hq : q ∈ [p] ++ ([] : List (Addr × Obj)) := hq
      rw [List.append_nil, List.mem_singleton] at hq
      subst hq
      exact apart b hb⟩
  have walk : codeAny (model X.prog X.w) X.A (.compLoop (.ListComp elt [⟨tg, iter, ifs, 0⟩] scope pos) 0 (.ref it) (.ref L) ce) (compPost (model X.prog X.w) X.A X.xe use Qf (.ref L) s3.heap.objs.size) s4 := by
    refine compLoop_any (fun n s' => ∃ i H', L2.Inv (blkQ p X s3 H3 scope ce fp) [] (wipe σ (own.map (·.2))) H' s' ∧ tn i s'.heap ∧ (∀ b ∈ fp, H' b = none) ∧ W i n H') ?_ m0 ⟨0, H3, I6, st4, nfp, w0⟩
    rintro n s5 ⟨i, H5, J5, st5, n5, w5⟩
    rcases turn i n H5 w5 with ⟨stop, qq⟩ | ⟨go, Nx, hNx, step⟩
    · refine thnF (T.done (blkQ p X s3 H3 scope ce fp) rfl rfl rfl i [] s5 _ H5 (fun _ _ => False) (hotB []) J5 (stat J5 n5) st5 stop) fun r s6 ⟨hr, I6⟩ => ?_
      subst hr
      have I7 : L2.Inv X pins σ H5 s6 := I3.call' (ch := fp) I6.os I6.base I6.hok I6.bare fun b hb => ⟨(f3 b hb).1.2.2.2.1, (f3 b hb).1.2.1, (f3 b hb).1.2.2.2.2.1, (f3 b hb).1.2.2.2.2.2⟩
      have nC : H5 s3.heap.objs.size = none := by rw [← cL]; exact I6.free
      obtain ⟨m, hn, _⟩ := I6.loc
      have hn : s6.heap.Ns ce.locals m := hn
      rw [cL] at hn
      exact hEnd L _ s6 m H5 I7 qq hn (I3.fpOk (Nat.le_refl _) nC)
    · refine thnF (T.item (blkQ p X s3 H3 scope ce fp) rfl rfl rfl i [] s5 _ H5 (fun _ _ => False) (hotB []) J5 (stat J5 n5) st5 go) fun r s6 ⟨u, hr, h6⟩ => ?_
      subst hr
      refine thnF h6 fun _ s7 ⟨x, H7, I7, r7, y7, st7, n7⟩ => ?_
      have I7' := I7.pinned (stat I7 n7) (T.obj _ _ st7)
      refine thnF (pg.run _ s7 _ H7 x u _ I7' r7 (step x H7 y7)) fun _ s8 ⟨σ8, H8, I8, hw8, q8⟩ => ?_
      refine thnF (pt.run _ s8 σ8 H8 _ I8 q8) fun b s9 ⟨H9, I9, q9⟩ => ?_
      have fin : ∀ {s' : Shared} {H' : Hp}, L2.Inv (blkQ p X s3 H3 scope ce fp) ([] ++ pinsAt fp s7.heap) σ8 H' s' → Nx H' → ∃ m, m < n ∧ ∃ i H', L2.Inv (blkQ p X s3 H3 scope ce fp) [] (wipe σ (own.map (·.2))) H' s' ∧ tn i s'.heap ∧ (∀ b ∈ fp, H' b = none) ∧ W i m H' := fun {s' H'} I' nx => by
        obtain ⟨m', hm, w'⟩ := hNx H' nx
        have pin' : ∀ b ∈ fp, ∀ o, s7.heap.get? b = some o → s'.heap.get? b = some o ∧ H' b = none := fun b hb o e => by
          have z := I'.pin (b, o) (List.mem_append_right _ (List.mem_append_right _ (mem_pinsAt hb e)))
          exact ⟨z.1, z.2.1⟩
        have hl : (wipe σ (own.map (·.2))).length = σ8.length := by rw [← hw8, wipe_length]
        refine ⟨m', hm, i + 1, H', I'.unpinned.weak hl (fun j v e => ?_), T.keep _ _ _ st7 fun b hb o e => (pin' b hb o e).1, fun b hb => ?_, w'⟩
        · rw [← hw8] at e
          exact (wipe_some e).1
        · obtain ⟨o, e, _⟩ := T.obj _ _ st7 b hb
          exact (pin' b hb o e).2
      cases b with
      | false =>
        simp only [Bool.false_eq_true, if_false] at q9 ⊢
        exact fin I9 q9
      | true =>
        simp only [if_true] at q9 ⊢
        refine thnF (pe.run _ s9 σ8 H9 _ I9 q9) fun z s10 ⟨yv, H10, I10, r10, acc, hD10, hz10, nx⟩ => ?_
        exact app_ok (X := blkQ p X s3 H3 scope ce fp) I10 hD10 hz10 r10 fun s11 I11 => fin I11 nx
  exact codeAny_compStart_list walk (T.self X.A 0 _ _ _ st4 walk)
theorem pe_lcQ {p : Addr × Obj} {X : Cx} {elt tg iter : Expr} {ifs : List Expr} {scope : Scope} {own : List (Str × Nat)} {pos : Pos} {wi : TI} {g : TG} {tt : TT} {te : TE} (hp : Hot1 X.A p) (hpm : p ∈ X.pn) (hN : X.N.Nodup) (hi : PIQ p X tg iter wi) (ok : BlkOk X.N X.env.scope scope own)
    (hg : ∀ (s : Shared) (H : Hp) (C : Addr) (cl : List (Str × Addr)) (fp : List Addr), PG (blkQ p X s H scope (compEnvC scope cl C X.env) fp) tg g)
    (ht : ∀ (s : Shared) (H : Hp) (C : Addr) (cl : List (Str × Addr)) (fp : List Addr), PTs (blkQ p X s H scope (compEnvC scope cl C X.env) fp) ifs tt)
    (he : ∀ (s : Shared) (H : Hp) (C : Addr) (cl : List (Str × Addr)) (fp : List Addr), PE (blkQ p X s H scope (compEnvC scope cl C X.env) fp) elt te)
    (hs : ∀ x, foldedSetIterable iter X.env x = pure x := by intro _; rfl) : PE X (.ListComp elt [⟨tg, iter, ifs, 0⟩] scope pos) (tLc wi g tt te (own.map (·.2))) := by
  refine ⟨fun pins s σ H Q I h => ?_⟩
  rw [eval_ListComp]
  refine lcQ hp hpm hN I hi ok hg ht he hs h fun L C s' m H' J qq hn f => ⟨m, hn, fun h'' sb => ?_⟩
  obtain ⟨g0, g1, g2, g3, g4, g5⟩ := f
  exact ⟨.ref L, H', J.turned (t' := s'.toks) (fun b o hb e => (sb.2 b hb).trans e) g0 g1 g3 g4 g5, rfl, qq⟩
/-- name = [..] there -/
theorem ps_setQ {p : Addr × Obj} {X : Cx} {i : Nat} {y : Str} {py : Pos} {elt tg iter : Expr} {ifs : List Expr} {scope : Scope} {own : List (Str × Nat)} {pos spos : Pos} {wi : TI} {g : TG} {tt : TT} {te : TE} (hp : Hot1 X.A p) (hpm : p ∈ X.pn) (hN : X.N.Nodup) (hy : X.N[i]? = some y)
    (hyl : X.env.scope.names.lookup y = some .local) (hsw : swapsWith (.ListComp elt [⟨tg, iter, ifs, 0⟩] scope pos) (some (.Name y py)) spos.line X.env = pure true) (hi : PIQ p X tg iter wi) (ok : BlkOk X.N X.env.scope scope own)
    (hg : ∀ (s : Shared) (H : Hp) (C : Addr) (cl : List (Str × Addr)) (fp : List Addr), PG (blkQ p X s H scope (compEnvC scope cl C X.env) fp) tg g)
    (ht : ∀ (s : Shared) (H : Hp) (C : Addr) (cl : List (Str × Addr)) (fp : List Addr), PTs (blkQ p X s H scope (compEnvC scope cl C X.env) fp) ifs tt)
    (he : ∀ (s : Shared) (H : Hp) (C : Addr) (cl : List (Str × Addr)) (fp : List Addr), PE (blkQ p X s H scope (compEnvC scope cl C X.env) fp) elt te)
    (hs : ∀ x, foldedSetIterable iter X.env x = pure x := by intro _; rfl) :
    PS X (.Assign [.Name y py] (.ListComp elt [⟨tg, iter, ifs, 0⟩] scope pos) spos) (tAsg (tLc wi g tt te (own.map (·.2))) (gName i)) := by
  refine ⟨fun pins s σ H D I h => ?_⟩
  rw [exec_Assign_Name_used _ _ _ _ hsw]
  refine wpAny_bind (wpAny_standAt (wpAny_bind ?_))
  have h : tLc wi g tt te (own.map (·.2)) σ H (fun x H1 => gName i x σ H1 D.nx) := h
  have main := lcQ (pos := pos) (pos' := firstIterPos [⟨tg, iter, ifs, 0⟩] pos) (use := some (assign (.Name y py) X.env)) (Qf := fun _ s' => SP X pins D .next s') hp hpm hN I hi ok hg ht he hs h fun L C s' m H' J qq hn f => by
    show wpAny _ _ (assign (.Name y py) X.env (.ref L)) _ _ _
    refine wpAny_assign_Name (store_ok2 (v := V.ref L) J hN hy (.inl hyl) rfl (fun s2 I2 ⟨a, sb, ha⟩ => ?_) (.inr hyl))
    obtain ⟨g0, g1, g2, g3, g4, g5⟩ := f
    have haC : C ≠ a := by
      rcases ha with z | z
      · rw [z]; exact g1
      · exact fun e => g4 y a z e.symm
    exact ⟨m, hn.sameBut sb haC, fun h3 sb3 => ⟨_, H', I2.turned (t' := s2.toks) (fun b o hb e => (sb3.2 b hb).trans e) g0 g1 g3 g4 g5, qq⟩⟩
  exact wpAny_bind (thn main fun _ s' hq => wpAny_pure (wpAny_pure hq))
end HT2
end
section
set_option Elab.async false
set_option linter.all false
set_option maxRecDepth 100000
set_option maxHeartbeats 4000000
namespace Pd
open PySem L2 PyProof.Rows L2H

/-! ### raise X('m') -/
def sRaise (n : String) : Sv := fun ρ => .ex n ρ
section
variable {X : Cx} {B : Bs} {W : WX} {x y z : Expr} {st b0 : Stmt} {rest body suite : List Stmt} {a b d : Ev} {s t : Sv} {pos p p2 pos' np : Pos} {D : Ends} {σ : L2.St} {H F : Hp} {ρ : Env}
theorem s_raise {n : String} {nm m : Str} {j : Nat} {C : Addr} {bmB : List Value} {Bn newId initId : String} (hC : B.ec n = C) (hc : X.calm = true) (tk : L2N.Takes X W) (Fx : ExcBaseFacts Bn newId initId bmB) (q : PySem.W.excIn X.K C bmB newId = true) (gC : X.mg nm = some (.ref C))
    (kC : PySem.W.keepIn X.K (.ref C) = true) (r : Raises X (.ref C)) (hg : Gl X nm) (hdb : (nm == ("__debug__" : Str)) = false := by decide) : PSD X B W (.Raise (some (.Call (.Name nm p) [.Constant (.str m) j p2] [] pos')) none pos) (sRaise n) :=
  ps_wk (L2N.ps_raise hc tk (L2N.pmk_own Fx q gC kC r hg hdb)) fun D σ H ⟨F, ρ, S, h⟩ => by
    subst hC
    exact h F σ H (Ex.refl F) S

/-! ### the handled error -/
def Bs.hot (B : Bs) (a : Addr) (n : String) : Bs := { B with hx := a, hn := n }
def noE (ρ : Env) : Bool := ρ.all fun s => match s with
  | .e _ => false
  | _ => true
theorem noE_at {i : Nat} {n : String} (h : noE ρ = true) : ρ[i]? ≠ some (.e n) := fun e => by
  unfold noE at h
  rw [List.all_eq_true] at h
  have := h _ (List.mem_of_getElem? e)
  cases this
theorem St.reHot {a : Addr} {n : String} (S : St B F σ H ρ) (h : noE ρ = true) : St (B.hot a n) F σ H ρ := by
  refine ⟨S.len, S.ex, fun i s x h1 h2 => ?_, S.sep, S.keep, S.low, S.new, S.dom, S.iow⟩
  have q := S.sl i s x h1 h2
  cases s with
  | u => exact True.intro
  | v d => exact q
  | o d => exact q
  | b d => exact q
  | e n => exact absurd h1 (noE_at h)
theorem St.unHot {a : Addr} {n : String} (S : St (B.hot a n) F σ H ρ) (h : noE ρ = true) : St B F σ H ρ := by
  refine ⟨S.len, S.ex, fun i s x h1 h2 => ?_, S.sep, S.keep, S.low, S.new, S.dom, S.iow⟩
  have q := S.sl i s x h1 h2
  cases s with
  | u => exact True.intro
  | v d => exact q
  | o d => exact q
  | b d => exact q
  | e n => exact absurd h1 (noE_at h)
theorem St.setE {a : Addr} {n : String} (S : St (B.hot a n) F σ H ρ) (i : Nat) : St (B.hot a n) F (σ.set i (some (.ref a))) H (ρ.set i (.e n)) := by
  refine ⟨by rw [List.length_set, List.length_set]; exact S.len, S.ex, fun j t x h1 h2 => ?_, fun j k t u q h1 h2 h3 h4 h5 h6 => ?_, S.keep, S.low, S.new, S.dom, S.iow⟩
  · by_cases e : i = j
    · subst e
      have l1 := get_lt h1
      have l2 := get_lt h2
      rw [List.length_set] at l1 l2
      rw [List.getElem?_set_self l1] at h1
      rw [List.getElem?_set_self l2] at h2
      cases h1
      cases h2
      exact ⟨rfl, rfl⟩
    · rw [List.getElem?_set_ne e] at h1 h2
      exact S.sl j t x h1 h2
  · have out : ∀ (m : Nat) (t : Sl), (ρ.set i (.e n))[m]? = some t → t.mine ≠ none → i ≠ m := fun m t e1 e2 z => by
      subst z
      have l := get_lt e1
      rw [List.length_set] at l
      rw [List.getElem?_set_self l] at e1
      cases e1
      exact e2 rfl
    have a1 := out j t h1 h3
    have b1 := out k u h2 h4
    rw [List.getElem?_set_ne a1] at h1 h5
    rw [List.getElem?_set_ne b1] at h2 h6
    exact S.sep j k t u q h1 h2 h3 h4 h5 h6
/-- what is known of the classes: kn the names, sub n: is it caught, isE n m: is an n an m -/
structure Errs (K : Frag) (ec : String → Addr) (kn : String → Bool) (km : String → Bool) (isE : String → String → Bool) : Prop where
  cls : ∀ n, kn n = true → ExcC K (ec n)
  is_ : ∀ n m, kn n = true → km m = true → PySem.W.kitOne K (.ref (ec n)) (.ref (ec m)) = some (isE n m)
  exm : ∀ n m, kn n = true → km m = true → PySem.W.exmOne K (.ref (ec n)) (.ref (ec m)) = some (isE n m)
/-- the context's handled error is B's -/
structure HotB (X : Cx) (B : Bs) : Prop where
  at_ : ∃ oe, (B.hx, oe) ∈ X.pn ∧ Hot1 X.A (B.hx, oe) ∧ oe.cls = .ref (B.ec B.hn) ∧ oe.dict = none ∧ ∃ vs, oe.data = .fields vs
theorem HotB.rb (h : HotB X B) (H0 F0 : Hp) : HotB X (B.rb H0 F0) := ⟨h.at_⟩
def eIsE (kn km : String → Bool) (isE : String → String → Bool) (i : Nat) (m : String) : Ev := fun ρ => match ρ[i]? with
  | some (.e n) => if kn n && km m then .ok (.v (.bool (isE n m))) ρ else .bad
  | _ => .bad
theorem cr_isX {a D : Addr} {oe : Obj} (C : ExcC X.K D) (hm : (a, oe) ∈ X.pn) (h1 : oe.cls = .ref D) (h2 : oe.dict = none) (hf : ∃ vs, oe.data = .fields vs) : CallR X (.builtin "isinstance") (rIsE X.K D a) := by
  intro pins s σ H xs us Q I r h
  obtain ⟨c, cv, k, rfl, hcv, e, q⟩ := h
  cases r with
  | cons rx rr =>
    cases rr with
    | cons rt rr =>
      cases rr
      cases rx
      have ec := hcv _ rt
      subst ec
      have hget := (I.pin (a, oe) (List.mem_append_left _ hm)).1
      obtain ⟨vs, hv⟩ := hf
      have J : PySem.W.InstAt s.heap a oe D none := by
        obtain ⟨oc, od, oda, osl⟩ := oe
        dsimp only at h1 h2 hv
        subst h1 h2 hv
        exact ⟨hget, rfl, rfl, trivial⟩
      exact PySem.W.kia_one (PySem.W.handS_kitx_exc C.hg C.hk C.hs C.hd C.ha C.hn C.ht C.hm) I.kIn J e (fun z => nomatch z) fun tk => ⟨.bl k, H, I.kept (t' := tk) fun _ _ z => z, rfl, q⟩
theorem d_isE {kn km : String → Bool} {isE : String → String → Bool} {i : Nat} {m : String} {nm : Str} {C : Addr} (R : Errs X.K B.ec kn km isE) (hh : HotB X B) (hC : B.ec m = C) (hg : Gl X "isinstance") (hm : X.mg "isinstance" = none) (hgC : Gl X nm) (hmC : X.mg nm = some (.ref C)) (hv : PE X x (tVar i))
    (hdb : (nm == ("__debug__" : Str)) = false := by decide)
    (s1 : starEach [.Name nm p2] X.env = (false, eval (.Name nm p2) X.env) :: starEach [] X.env := by rfl)
    (he : starEach [x, .Name nm p2] X.env = (false, eval x X.env) :: starEach [.Name nm p2] X.env := by rfl) (hpl : (backTo pos (starEach [.Name nm p2] X.env)).any (·.1) = false := by rfl) :
    PED X B W (.Call (.Name "isinstance" p) [x, .Name nm p2] [] pos) (eIsE kn km isE i m) := by
  obtain ⟨oe, hp, _, hc, hd, hf⟩ := hh.at_
  by_cases hk : kn B.hn = true ∧ km m = true
  · refine pe_wk (pe_callB (cr_isX (R.cls _ hk.1) hp hc hd hf) hg hm PyProof.Rows.boot_isinstance (pa_cons hv (pa_cons (pe_glob hgC hmC (v := .ref C) rfl hdb) pa_nil s1) he) (by decide) (by decide) he hpl) fun σ H Q ⟨F, ρ, S, h⟩ => ?_
    unfold eIsE at h
    cases e : ρ[i]? with
    | none => rw [e] at h; exact h.elim
    | some s =>
      rw [e] at h
      cases s with
      | e n =>
        simp only at h
        split at h
        · have hl : i < σ.length := by rw [S.len]; exact get_lt e
          obtain ⟨e1, e2⟩ := S.sl i _ _ e (List.getElem?_eq_getElem hl)
          refine ⟨.ref B.hx, by rw [List.getElem?_eq_getElem hl, e1], .ref C, .ref C, isE n m, rfl, fun u r => r, ?_, h F H _ (Ex.refl F) S (.bl _)⟩
          have := R.is_ _ _ hk.1 hk.2
          rw [hC] at this
          rw [← e2]
          exact this
        · exact h.elim
      | u => exact h.elim
      | v _ => exact h.elim
      | o _ => exact h.elim
      | b _ => exact h.elim
  · refine ⟨fun pins s σ H Q I ⟨F, ρ, S, h⟩ => ?_⟩
    exfalso
    unfold eIsE at h
    cases e : ρ[i]? with
    | none => rw [e] at h; exact h
    | some s =>
      rw [e] at h
      cases s with
      | e n =>
        simp only at h
        split at h
        · rename_i hb
          have hl : i < σ.length := by rw [S.len]; exact get_lt e
          obtain ⟨e1, e2⟩ := S.sl i _ _ e (List.getElem?_eq_getElem hl)
          rw [Bool.and_eq_true] at hb
          rw [← e2] at hb
          exact hk hb
        · exact h
      | u => exact h
      | v _ => exact h
      | o _ => exact h
      | b _ => exact h

/-! ### try -/
def sTry (kn km : String → Bool) (isE : String → String → Bool) (m : String) (i : Nat) (b su : Sv) : Sv := fun ρ => match b ρ with
  | .ex n ρ1 => if kn n && km m then (if isE n m then (if noE ρ1 then match su (ρ1.set i (.e n)) with
      | .nx ρ2 => if noE (ρ2.set i .u) then .nx (ρ2.set i .u) else .bad
      | .rt (.v d) ρ2 => if noE (ρ2.set i .u) then .rt (.v d) (ρ2.set i .u) else .bad
      | .bk ρ2 => if noE (ρ2.set i .u) then .bk (ρ2.set i .u) else .bad
      | .ct ρ2 => if noE (ρ2.set i .u) then .ct (ρ2.set i .u) else .bad
      | _ => .bad else .bad) else .ex n ρ1) else .bad
  | o => o
theorem s_try {kn km : String → Bool} {isE : String → String → Bool} {m : String} {i : Nat} {C : Addr} {nm en : Str} (R : Errs X.K B.ec kn km isE) (hC : B.ec m = C) (hs : X.stack = X.env :: X.outer) (hf : X.env.frame = some X.env.locals) (hN : X.N.Nodup) (hi : X.N[i]? = some en)
    (hln : X.env.kindOf en = some .local) (hg : Gl X nm) (hm : X.mg nm = some (.ref C)) (tk : L2N.Takes X W)
    (hb : ∀ (W' : WX) (pn : List (Addr × Obj)) (xe : Value → Shared → Prop), L2N.Takes (X.tr pn xe) W' → PassesOwn (model X.prog X.w) X.A X.env xe → PSsD (X.tr pn xe) B W' body s)
    (hsu : ∀ (a : Addr) (oe : Obj) (n : String) (pn : List (Addr × Obj)), HotB (X.suite a ((a, oe) :: pn)) (B.hot a n) → PSsD (X.suite a ((a, oe) :: pn)) (B.hot a n) WNo (b0 :: suite) t)
    (hdb : (nm == ("__debug__" : Str)) = false := by decide) :
    PSD X B W (.Try body [.ExceptHandler (some (.Name nm np)) (some en) (b0 :: suite) pos'] [] [] pos) (sTry kn km isE m i s t) := by
  refine ps_wk (L2N.ps_try_as (ts := fun a cls d D σ H => ∃ n, cls = .ref (B.ec n) ∧ d = none ∧ tS (B.hot a n) WNo t D σ H) hs hf hN hi hln ⟨hg, hdb, .inl hm⟩ tk hb fun a oe cls d pn hz hfl => ?_) fun D σ H ⟨F, ρ, S, h⟩ => ?_
  · refine ⟨fun pins s0 σ0 H0 D0 I ⟨n, e1, e2, q⟩ => ?_⟩
    subst e1
    subst e2
    obtain ⟨h1, h2, h3⟩ := hz
    obtain ⟨vs, hv⟩ := hfl
    refine (hsu a oe n pn ⟨oe, List.mem_cons_self .., ⟨rfl, vs, hv, h3 vs hv⟩, h1, h2, vs, hv⟩).run pins s0 σ0 H0 D0 I q
  · refine ⟨F, ρ, S, ?_⟩
    unfold sTry at h
    cases e : s ρ with
    | nx ρ1 => rw [e] at h; exact h
    | rt r ρ1 => rw [e] at h; exact h
    | bk ρ1 => rw [e] at h; exact h
    | ct ρ1 => rw [e] at h; exact h
    | bad => rw [e] at h; exact h
    | ex n ρ1 =>
      rw [e] at h
      simp only at h
      split at h
      · rename_i hk
        rw [Bool.and_eq_true] at hk
        intro F1 σ1 H1 x1 S1
        refine ⟨isE n m, by rw [← hC]; exact R.exm _ _ hk.1 hk.2, fun hb a ha => ?_, fun hb => ?_⟩
        · rw [if_pos hb] at h
          split at h
          · rename_i hn
            refine ⟨n, rfl, rfl, F1, ρ1.set i (.e n), (S1.reHot hn).setE i, ?_⟩
            have back : ∀ {F2 σ2 H2 ρ2}, St (B.hot a n) F2 σ2 H2 ρ2 → noE (ρ2.set i .u) = true → St B F2 (σ2.set i none) H2 (ρ2.set i .u) := fun S2 h2 => (S2.setU i none).unHot h2
            cases e2 : t (ρ1.set i (.e n)) with
            | nx ρ2 =>
              rw [e2] at h
              simp only at h
              split at h
              · rename_i h2; exact fun F2 σ2 H2 x2 S2 => h F2 _ H2 (x1.trans x2) (back S2 h2)
              · exact h.elim
            | bk ρ2 =>
              rw [e2] at h
              simp only at h
              split at h
              · rename_i h2; exact fun F2 σ2 H2 x2 S2 => h F2 _ H2 (x1.trans x2) (back S2 h2)
              · exact h.elim
            | ct ρ2 =>
              rw [e2] at h
              simp only at h
              split at h
              · rename_i h2; exact fun F2 σ2 H2 x2 S2 => h F2 _ H2 (x1.trans x2) (back S2 h2)
              · exact h.elim
            | rt r ρ2 =>
              rw [e2] at h
              cases r with
              | v d =>
                simp only at h
                split at h
                · rename_i h2; exact fun F2 σ2 H2 x x2 S2 R2 => h F2 _ H2 x (x1.trans x2) (back S2 h2) R2
                · exact h.elim
              | s _ => exact h.elim
              | f _ => exact h.elim
            | ex _ _ => rw [e2] at h; exact h.elim
            | bad => rw [e2] at h; exact h.elim
          · exact h.elim
        · rw [if_neg (by rw [hb]; exact Bool.false_ne_true)] at h
          exact h F1 σ1 H1 x1 S1
      · exact h.elim
end
end Pd
end
section
set_option Elab.async false
set_option linter.all false
set_option maxRecDepth 100000
set_option maxHeartbeats 4000000
namespace Pd
open PySem L2 PyProof.Rows L2H PySem.Spec

/-! ### defs that look at the handled error -/
abbrev FnE := String → FOut
def spX (c : Ct) (ec : String → Addr) (f : FnE) (p : Addr × Obj) : Sp := fun vs H Q E => ∃ F n, Ex F H ∧ vs = [.ref p.1] ∧ p.2.cls = .ref (ec n) ∧ p.2.dict = none ∧ FOk c ec F H [] Q E (f n)
structure FnX (P : Program) (w : World) (K : Frag) (mg : Str → Option Value) (base : Heap) (CX : CXT) (k : Nat) (f : Addr) (fd : FuncData) (ps : List Str) (sp : Addr × Obj → Sp) : Prop where
  len : ∀ p vs H Q E, sp p vs H Q E → vs.length = ps.length
  run : ∀ (A : Around) (outer : List PySem.Env) (s : Shared) (H : Hp) (args : PySem.Args) (us : List Value) (vs : List V) (Q : VK) (E : XK) (p : Addr × Obj), RoomH k A → Hot1 A p → PinOk outer H s p → Env0 P w K mg base A outer s H → BindsTo s fd args (ps.zip us) → Vals vs us → sp p vs H Q E →
    codeAny (model P w) A (.call (.ref f) args) (CR CX outer P w H s Q E) s
def toFnX (n : Nat) (b : Sv) : FnE := fun m => match b (.e m :: List.replicate (n - 1) .u) with
  | .rt (.v d) _ => .ret d []
  | _ => .bad
section
variable {c : Ct} {ec : String → Addr} {P : Program} {w : World} {K : Frag} {mg : Str → Option Value} {base : Heap} {k : Nat} {f : Addr} {name qual : Str} {params : Arguments} {body : List Stmt} {scope : Scope} {dV kV doc pm cdv ct oc : Value} {an od : Option Addr}
    {osl : Array (Option Value)} {N ps : List Str} {b : Sv} {CX : CXT}
theorem fnX0 {sp : Addr × Obj → Sp} (lk : K.lookup f = some ⟨oc, od, .func (PySem.W.fnOf name qual params body scope dV kV doc pm an cdv ct), osl⟩) (hcd : PySem.W.codeIn K cdv qual = true) (S : FnScope N ps scope)
    (len : ∀ p vs H Q E, sp p vs H Q E → vs.length = ps.length)
    (hb : ∀ (A : Around) (outer : List PySem.Env) (s : Shared) (H : Hp) (vs : List V) (Q : VK) (E : XK) (p : Addr × Obj), Hot1 A p → RoomH k (A.deeper (envOfC qual scope s.heap.objs.size f cdv)) → sp p vs H Q E →
      ∃ t, PSs (cxH CX P w K mg base N qual scope f cdv A outer s H E p) body t ∧ t { nx := fun _ H' => Q .non H', rt := Q } (L2.start N vs) H) :
    FnX P w K mg base CX (k + 1) f (PySem.W.fnOf name qual params body scope dV kV doc pm an cdv ct) ps sp := by
  refine ⟨len, ?_⟩
  intro A outer s H args us vs Q E p hr hot hpin e0 hbind r hsp
  have hl := len _ _ _ _ _ hsp
  have KX : K.In s.heap := e0.mod.kin.keeps fun q o e => (e0.bs q o e).1
  have lim : s.heap.NoLimit := e0.mod.nolimit.keeps fun q o e => (e0.bs q o e).1
  refine codeAny_call_function hr.depth (KX _ _ lk) rfl S.co S.gen rfl (PySem.W.codeRec_of KX hcd) (hbind _ _ _ _ ?_)
  refine wpAny_newFunctionEnv_cells S.kind (fun y hy => (S.par y.1 (List.of_mem_zip hy).1).imp id fun q => ⟨q, PySem.W.cellsFrom_some _ _ _ (.inl q)⟩) fun env he s1 x => ?_
  subst he
  refine ⟨lim.keeps x.toInCall.keep, codeAny_func ?_⟩
  obtain ⟨t, ht, hq⟩ := hb A outer s H vs Q E p hot (hr.deeper _) hsp
  have I := inv_startH (CX := CX) (P := P) (w := w) (qual := qual) (f := f) (cd := cdv) (A := A) (E := E) S hpin e0 hl r x
  refine wpAny_mono (ht.run [] s1 (L2.start N vs) H _ I hq) (fun fl s' hs => ?_) fun e s' hs => hs
  match fl, hs with
  | .ret u, ⟨v, σ', H', J, rv, q⟩ => exact ⟨v, H', J.os, J.bare, J.base, J.hok, rv, q⟩
  | .next, ⟨σ', H', J, q⟩ => exact ⟨.non, H', J.os, J.bare, J.base, J.hok, rfl, q⟩
  | .brk, ⟨_, _, _, q⟩ => exact q.elim
  | .cont, ⟨_, _, _, q⟩ => exact q.elim
theorem fnX (lk : K.lookup f = some ⟨oc, od, .func (PySem.W.fnOf name qual params body scope dV kV doc pm an cdv ct), osl⟩) (hcd : PySem.W.codeIn K cdv qual = true) (S : FnScope N ps scope) (hm : ps.length = 1) (hN : 1 ≤ N.length)
    (hb : ∀ (A : Around) (outer : List PySem.Env) (s : Shared) (H : Hp) (E : XK) (p : Addr × Obj) (B : Bs), RoomH k (A.deeper (envOfC qual scope s.heap.objs.size f cdv)) → B.c = c → B.ec = ec → HotB (cxH (L2N.CX P w) P w K mg base N qual scope f cdv A outer s H E p) B →
      (∃ p0 oe, (p0, oe) ∈ (cxH (L2N.CX P w) P w K mg base N qual scope f cdv A outer s H E p).pn ∧ Hot1 (A.deeper (envOfC qual scope s.heap.objs.size f cdv)) (p0, oe)) →
      PSsD (cxH (L2N.CX P w) P w K mg base N qual scope f cdv A outer s H E p) B (fun cls d _ H => E cls d H) body b) :
    FnX P w K mg base (L2N.CX P w) (k + 1) f (PySem.W.fnOf name qual params body scope dV kV doc pm an cdv ct) ps (spX c ec (toFnX N.length b)) := by
  refine fnX0 lk hcd S (fun p vs H Q E ⟨F, n, _, e, _⟩ => by rw [e, hm]; rfl) ?_
  intro A outer s H vs Q E p hot hr ⟨F, n, e, hv, hc, hd, q⟩
  subst hv
  obtain ⟨hh, vs0, hv0, hv1⟩ := id hot
  have hot2 : Hot1 (A.deeper (envOfC qual scope s.heap.objs.size f cdv)) p := hot
  refine ⟨_, hb A outer s H E p ⟨c, H, F, fun _ => none, ec, p.1, n⟩ hr rfl rfl ⟨p.2, List.mem_singleton.mpr rfl, hot2, hc, hd, vs0, hv0⟩ ⟨p.1, p.2, List.mem_singleton.mpr rfl, hot2⟩, F, .e n :: List.replicate (N.length - 1) .u, ?_, ?_⟩
  · refine ⟨?_, e, ?_, ?_, fun q o h _ => h, Ex.refl F, fun q _ h => h, fun q h => h, fun i q h => nomatch h⟩
    · unfold L2.start
      simp
    · intro i sl x h1 h2
      cases i with
      | zero =>
        simp at h1
        subst h1
        simp [L2.start] at h2
        subst h2
        exact ⟨rfl, rfl⟩
      | succ i =>
        have : sl = .u := by
          have h1 : (List.replicate (N.length - 1) Sl.u)[i]? = some sl := by simpa using h1
          exact (List.mem_replicate.mp (List.mem_of_getElem? h1)).2
        subst this
        exact True.intro
    · intro i j sl tl a h1 h2 h3
      exfalso
      cases i with
      | zero => simp at h1; subst h1; exact h3 rfl
      | succ i =>
        have h1 : (List.replicate (N.length - 1) Sl.u)[i]? = some sl := by simpa using h1
        rw [(List.mem_replicate.mp (List.mem_of_getElem? h1)).2] at h3
        exact h3 rfl
  · unfold toFnX at q
    cases e2 : b (.e n :: List.replicate (N.length - 1) .u) with
    | rt r ρ =>
      rw [e2] at q
      cases r with
      | v d => exact fun F' σ' H' v x S R => q F' H' v ⟨S.low, S.ex, fun q o h _ => S.keep q o h fun _ z => (nomatch z), S.new, S.dom, .nil⟩ R
      | s _ => exact q.elim
      | f _ => exact q.elim
    | nx _ => rw [e2] at q; exact q.elim
    | bk _ => rw [e2] at q; exact q.elim
    | ct _ => rw [e2] at q; exact q.elim
    | ex _ _ => rw [e2] at q; exact q.elim
    | bad => rw [e2] at q; exact q.elim
end
def eCallX (i : Nat) (f : FnE) : Ev := fun ρ => match ρ[i]? with
  | some (.e n) => match f n with
    | .ret d [] => .ok (.v d) ρ
    | _ => .bad
  | _ => .bad
section
variable {X : Cx} {B : Bs} {W : WX} {x : Expr} {pos p : Pos} {σ : L2.St} {H F : Hp} {ρ : Env}
theorem d_callX {k i : Nat} {g : Addr} {fd : FuncData} {ps : List Str} {nm : Str} {f : FnE} (Fo : FnX X.prog X.w X.K X.mg X.base (L2N.CX X.prog X.w) k g fd ps (spX B.c B.ec f)) (hr : RoomH k X.A) (hh : HotB X B) (hg : Gl X nm) (hm : X.mg nm = some (.ref g)) (hk : PySem.W.keepIn X.K (.ref g) = true)
    (hb : Binds X.K fd ps []) (hv : PE X x (tVar i)) (hdb : (nm == ("__debug__" : Str)) = false := by decide) (he : starEach [x] X.env = (false, eval x X.env) :: starEach [] X.env := by rfl) (hpl : (backTo pos (starEach [] X.env)).any (·.1) = false := by rfl) :
    PED X B W (.Call (.Name nm p) [x] [] pos) (eCallX i f) := by
  obtain ⟨oe, hp, hot, hc, hd, hf⟩ := hh.at_
  refine ⟨fun pins s σ H Q I ⟨F, ρ, S, h⟩ => ?_⟩
  unfold eCallX at h
  cases e : ρ[i]? with
  | none => rw [e] at h; exact h.elim
  | some sl =>
    rw [e] at h
    cases sl with
    | u => exact h.elim
    | v _ => exact h.elim
    | o _ => exact h.elim
    | b _ => exact h.elim
    | e n =>
      simp only at h
      have hl : i < σ.length := by rw [S.len]; exact get_lt e
      obtain ⟨e1, e2⟩ := S.sl i _ _ e (List.getElem?_eq_getElem hl)
      have hσ : σ[i]? = some (some (.ref B.hx)) := by rw [List.getElem?_eq_getElem hl, e1]
      cases ef : f n with
      | bad => rw [ef] at h; exact h.elim
      | ex _ _ => rw [ef] at h; exact h.elim
      | own _ _ => rw [ef] at h; exact h.elim
      | ret d os =>
        rw [ef] at h
        cases os with
        | cons _ _ => exact h.elim
        | nil =>
          simp only at h
          have ha : PA X [x] (tCons (tVar i) tNil) := pa_cons hv pa_nil he
          refine wpAny_Call_Name_kw (ld_glob I hg hm ?_ hdb)
          refine PySem.W.callWith_K (h₀ := X.base) I.ok.mod.kin hk (thn (ha.run pos pins s σ H (fun vs H1 => vs = [V.ref B.hx] ∧ H1 = H) I ⟨_, hσ, rfl, rfl⟩) fun us s1 hus => ?_) he hpl
          obtain ⟨vs, H1, I1, r, ev, eH⟩ := hus
          subst ev
          rw [eH] at I1
          refine ⟨I1.kIn, ?_⟩
          have hlen : us.length = ps.length := by
            rw [← r.length]
            exact Fo.len (B.hx, oe) [.ref B.hx] H Q (WE W σ) ⟨F, n, S.ex, rfl, by rw [← e2]; exact hc, hd, by rw [ef]; exact fun F' H' v A rr => h F' H' v A.f (S.aft0 A) rr⟩
          have bd := hb s1 us I1.kIn (by rw [List.append_nil]; exact hlen)
          rw [List.append_nil] at bd
          have P1 := I1.pin (B.hx, oe) (List.mem_append_left _ hp)
          have hpin : PinOk X.stack H s1 (B.hx, oe) := ⟨P1.1, P1.2.1, fun hm => (List.mem_cons.mp (I1.stkSub B.hx hm)).elim P1.2.2.1 P1.2.2.2.1, P1.2.2.2.2⟩
          refine wpAny_call (codeAny_mono (Fo.run X.A X.stack s1 H ⟨us, []⟩ us [.ref B.hx] Q (fun _ _ _ => False) (B.hx, oe) hr hot hpin I1.env0 bd r ⟨F, n, S.ex, rfl, by rw [← e2]; exact hc, hd, by rw [ef]; exact fun F' H' v A rr => h F' H' v A.f (S.aft0 A) rr⟩) fun res s' hq => ?_)
          match res, hq with
          | .ok (.ret u), hq => exact I1.after hq
          | .ok .next, hq => exact hq.elim
          | .ok .brk, hq => exact hq.elim
          | .ok .cont, hq => exact hq.elim
          | .error e, hq =>
            obtain ⟨_, _, _, _, _, _, _, _, _, _, _, _, z⟩ := hq
            exact z.elim

/-! ### a comprehension there -/
def tgQ (us : List Tg) : Tg := fun d ρ => match d with
  | .tuple ds => goT us ds ρ
  | _ => none
def iSeqL (a : Ev) : EvI := fun ρ => (a ρ).bdI fun r ρ1 => match frzR ρ1 r with
  | some (.list ds, ρ2) => .ok ds ρ2
  | _ => .bad
theorem i_seqQ {p : Addr × Obj} {tg : Expr} {a : Ev} (ha : PED X B W x a) : HT2.PIQ p X tg x (tI B W (iSeqL a)) := by
  refine ⟨fun pins s σ H R I ⟨F, ρ, S, h⟩ => (HT2.pi_lst ha).run pins s σ H R I (bdI_ok S h fun r ρ1 F1 H1 v e1 S1 R1 h1 => ?_)⟩
  split at h1
  · rename_i ds ρ2 e2
    obtain ⟨F2, x2, S2, q2⟩ := frzR_ok S1 R1 e2
    obtain ⟨q, vs, rfl, r, rs⟩ := q2.listI
    exact ⟨q, rfl, ⟨vs, .inl (S2.ex.rd _ _ r)⟩, h1 F2 H1 _ x2 S2 (itOk_list r rs)⟩
  · exact h1.elim
theorem g_tupQ {es : List Expr} {k n : Nat} {us : List Tg} {ws : List Nat} {q : Addr × Obj} (hK : B.c.K = X.K) (hot : Hot1 X.A q) (hq : q ∈ X.pn) (h : PGsD X B es ws us) (hl : us.length = n)
    (hn : (assignEach es X.env).length = n := by rfl) (hst : (assignEach es X.env).findIdx? (·.1) = none := by rfl) : PGD X B (.Tuple es k pos) ws (tgQ us) :=
  pg_wk (HT2.pg_tupQ hot hq h hn hst) fun v σ H Q ⟨F, ρ, d, ρ', S, r, e, kk⟩ => by
    cases d with
    | tuple ds =>
      obtain ⟨a, vs, rfl, r1, r2⟩ := r.tupI
      exact ⟨a, vs, rfl, by rw [← hK]; exact (r1.ex S.ex).sq, by rw [r2.length, ← goT_len e, hl], F, ρ, ds, ρ', S, r2, e, kk⟩
    | _ => cases e
theorem d_lcQ {ws : List Nat} {u : Tg} {c : EvT} {e a : Ev} {elt tg iter : Expr} {ifs : List Expr} {scope : Scope} {own : List (Str × Nat)} {q : Addr × Obj} (hot : Hot1 X.A q) (hq : q ∈ X.pn) (hN : X.N.Nodup) (ha : PED X B W iter a) (ok : BlkOk X.N X.env.scope scope own) (hv : ∀ j ∈ ws, j ∈ own.map (·.2))
    (hg : ∀ (s : Shared) (H : Hp) (C : Addr) (cl : List (Str × Addr)) (fp : List Addr) H0 F0, PGD (HT2.blkQ q X s H scope (compEnvC scope cl C X.env) fp) (B.rb H0 F0) tg ws u)
    (ht : ∀ (s : Shared) (H : Hp) (C : Addr) (cl : List (Str × Addr)) (fp : List Addr) H0 F0, PTsD (HT2.blkQ q X s H scope (compEnvC scope cl C X.env) fp) (B.rb H0 F0) ifs c)
    (he : ∀ (s : Shared) (H : Hp) (C : Addr) (cl : List (Str × Addr)) (fp : List Addr) H0 F0, PED (HT2.blkQ q X s H scope (compEnvC scope cl C X.env) fp) (B.rb H0 F0) WNo elt e) (hs : ∀ x, foldedSetIterable iter X.env x = pure x := by intro _; rfl) :
    PED X B W (.ListComp elt [⟨tg, iter, ifs, 0⟩] scope pos) (eLc (own.map (·.2)) u c e (iSeqL a)) :=
  pe_wk (HT2.pe_lcQ hot hq hN (i_seqQ ha) ok (fun s H C cl fp => pg_ex (hg s H C cl fp)) (fun s H C cl fp => pts_ex (ht s H C cl fp)) (fun s H C cl fp => pe_ex (he s H C cl fp)) hs) fun σ H Q h => lc_ok hv h
theorem s_setLcQ {k : Nat} {y : Str} {py : Pos} {ws : List Nat} {u : Tg} {c : EvT} {e a : Ev} {elt tg iter : Expr} {ifs : List Expr} {scope : Scope} {own : List (Str × Nat)} {spos : Pos} {q : Addr × Obj} (hot : Hot1 X.A q) (hq : q ∈ X.pn) (hN : X.N.Nodup) (hy : X.N[k]? = some y) (hyl : X.env.scope.names.lookup y = some .local)
    (hsw : swapsWith (.ListComp elt [⟨tg, iter, ifs, 0⟩] scope pos) (some (.Name y py)) spos.line X.env = pure true) (ha : PED X B W iter a) (ok : BlkOk X.N X.env.scope scope own) (hv : ∀ j ∈ ws, j ∈ own.map (·.2))
    (hg : ∀ (s : Shared) (H : Hp) (C : Addr) (cl : List (Str × Addr)) (fp : List Addr) H0 F0, PGD (HT2.blkQ q X s H scope (compEnvC scope cl C X.env) fp) (B.rb H0 F0) tg ws u)
    (ht : ∀ (s : Shared) (H : Hp) (C : Addr) (cl : List (Str × Addr)) (fp : List Addr) H0 F0, PTsD (HT2.blkQ q X s H scope (compEnvC scope cl C X.env) fp) (B.rb H0 F0) ifs c)
    (he : ∀ (s : Shared) (H : Hp) (C : Addr) (cl : List (Str × Addr)) (fp : List Addr) H0 F0, PED (HT2.blkQ q X s H scope (compEnvC scope cl C X.env) fp) (B.rb H0 F0) WNo elt e) (hs : ∀ x, foldedSetIterable iter X.env x = pure x := by intro _; rfl) :
    PSD X B W (.Assign [.Name y py] (.ListComp elt [⟨tg, iter, ifs, 0⟩] scope pos) spos) (sSet k (eLc (own.map (·.2)) u c e (iSeqL a))) :=
  ps_wk (HT2.ps_setQ hot hq hN hy hyl hsw (i_seqQ ha) ok (fun s H C cl fp => pg_ex (hg s H C cl fp)) (fun s H C cl fp => pts_ex (ht s H C cl fp)) (fun s H C cl fp => pe_ex (he s H C cl fp)) hs) fun D σ H h => by
    obtain ⟨F, ρ, S, h⟩ := h
    refine lc_ok hv ?_
    refine bdS_ok S h fun r ρ1 F1 H1 x e1 S1 R1 h1 => ?_
    cases e : setR ρ1 k r with
    | none => simp only [e] at h1; exact h1.elim
    | some ρ2 =>
      simp only [e] at h1
      obtain ⟨F2, e2, S2⟩ := setR_ok S1 R1 e
      exact h1 F2 _ H1 e2 S2
end
end Pd
end
section
set_option Elab.async false
set_option linter.all false
set_option maxRecDepth 100000
set_option maxHeartbeats 4000000
namespace Pd
open PySem L2 PyProof.Rows L2H PySem.Spec

theorem takesNo {X : Cx} : L2N.Takes X WNo := fun u s' x => by
  obtain ⟨_, _, _, _, _, _, _, _, _, _, _, _, _, _, _, _, z⟩ := x
  exact z.elim
abbrev mkB (K : Frag) (kt : Bool) (ec : String → Addr) (H0 F0 : Hp) (io : Nat → Option Addr) (hx : Addr) (hn : String) : Bs := ⟨⟨K, kt⟩, H0, F0, io, ec, hx, hn⟩
section
variable {P : Program} {w : World} {K : Frag} {kt : Bool} {ec : String → Addr} {mg : Str → Option Value} {base : Heap} {k : Nat} {f : Addr} {fd : FuncData} {x qual : Str} {st : Stmt} {N ps : List Str} {ms : List Bool} {b : Sv}
/-- a def of the text, by data -/
theorem fnF (Fu : Fun K x qual st f fd) (S : FnScope N ps (defScope st)) (hm : ms.length = ps.length) (hN : ps.length ≤ N.length)
    (hb : ∀ (cdv : Value) (A : Around) (outer : List PySem.Env) (s : Shared) (H : Hp) (E : XK) (H0 F0 : Hp) (io : Nat → Option Addr) (hx : Addr) (hn : String), Room k (A.deeper (envOfC qual (defScope st) s.heap.objs.size f cdv)) →
      L2N.Takes (cxOf (L2N.CX P w) P w K mg base N qual (defScope st) f cdv A outer s H E) (fun cls d _ H => E cls d H) →
      PassesOwn (model P w) (A.deeper (envOfC qual (defScope st) s.heap.objs.size f cdv)) (envOfC qual (defScope st) s.heap.objs.size f cdv) (cxOf (L2N.CX P w) P w K mg base N qual (defScope st) f cdv A outer s H E).xe →
      PSsD (cxOf (L2N.CX P w) P w K mg base N qual (defScope st) f cdv A outer s H E) (mkB K kt ec H0 F0 io hx hn) (fun cls d _ H => E cls d H) (defBody st) b) :
    FnOk P w K mg base (L2N.CX P w) (k + 1) f fd ps (spD ⟨K, kt⟩ ec ms (toFn N.length ms b)) := by
  obtain ⟨oc, od, kV, doc, pm, an, cdv, ct, osl, rfl, lk, hcd⟩ := Fu.ex
  refine fnD lk hcd S hm hN fun A outer s H E B hr hc he => ?_
  obtain ⟨c, H0, F0, io, ec', hx, hn⟩ := B
  subst hc
  subst he
  exact hb cdv A outer s H E H0 F0 io hx hn hr (L2N.takes_of rfl rfl rfl rfl) PassesOwn.leaving
/-- a def that looks at the handled error -/
theorem fnXF (Fu : Fun K x qual st f fd) (S : FnScope N ps (defScope st)) (hm : ps.length = 1) (hN : 1 ≤ N.length)
    (hb : ∀ (cdv : Value) (A : Around) (outer : List PySem.Env) (s : Shared) (H : Hp) (E : XK) (p q : Addr × Obj) (H0 F0 : Hp) (io : Nat → Option Addr) (hx : Addr) (hn : String), RoomH k (A.deeper (envOfC qual (defScope st) s.heap.objs.size f cdv)) →
      HotB (cxH (L2N.CX P w) P w K mg base N qual (defScope st) f cdv A outer s H E p) (mkB K kt ec H0 F0 io hx hn) →
      q ∈ (cxH (L2N.CX P w) P w K mg base N qual (defScope st) f cdv A outer s H E p).pn → Hot1 (A.deeper (envOfC qual (defScope st) s.heap.objs.size f cdv)) q →
      PSsD (cxH (L2N.CX P w) P w K mg base N qual (defScope st) f cdv A outer s H E p) (mkB K kt ec H0 F0 io hx hn) (fun cls d _ H => E cls d H) (defBody st) b) :
    FnX P w K mg base (L2N.CX P w) (k + 1) f fd ps (spX ⟨K, kt⟩ ec (toFnX N.length b)) := by
  obtain ⟨oc, od, kV, doc, pm, an, cdv, ct, osl, rfl, lk, hcd⟩ := Fu.ex
  refine fnX lk hcd S hm hN fun A outer s H E p B hr hc he hh hq => ?_
  obtain ⟨c, H0, F0, io, ec', hx, hn⟩ := B
  subst hc
  subst he
  obtain ⟨p0, oe, h1, h2⟩ := hq
  exact hb cdv A outer s H E p (p0, oe) H0 F0 io hx hn hr hh h1 h2
/-- what a law's def promises of its script -/
def spLaw (K : Frag) (n : Nat) : Sp := fun vs H Q _ => ∃ (a : Addr) (ns : List Int), vs = [.ref a] ∧ SqL K H a (ns.map V.int) ∧ ns.length ≤ n ∧ (∀ z ∈ ns, Builtin.Int.intBits z ≤ 1048576) ∧ ∀ H', Q (.bl true) H'
theorem lawOk {fn : Fn} {n : Nat} (Fo : FnOk P w K mg base (L2N.CX P w) k f fd ps (spD ⟨K, kt⟩ ec [false] fn)) (h : ∀ ns : List Int, ns.length ≤ n → (∀ z ∈ ns, Builtin.Int.intBits z ≤ 1048576) → fn [scrD (ns.map PyData.int)] = .ret (.bool true) []) : FnOk P w K mg base (L2N.CX P w) k f fd ps (spLaw K n) :=
  Fo.imp fun vs H Q E ⟨a, ns, e, hS, hl, hb, q⟩ => by
    subst e
    refine ⟨H, [scrD (ns.map PyData.int)], [], Ex.refl H, .val (.scr hS (Reps.ints ns)) .nil, ?_⟩
    rw [h ns hl hb]
    intro F' H' v A r
    cases r
    exact q H'
end
end Pd
end
section
set_option Elab.async false
set_option linter.all false
set_option maxRecDepth 100000
set_option maxHeartbeats 4000000
namespace Pd
open PySem L2 PyProof.Rows L2H PySem.Spec
def fAddI : D → D → Option Res
  | .int i, .int j => some (.v (.int (i + j)))
  | _, _ => none
theorem D_addI {c : Ct} : OpD c (rI0 fun i j => .int (i + j)) fAddI := by
  intro F H d1 d2 x y res Q e h1 h2 hf
  cases d1 <;> cases d2 <;> cases hf
  exact ⟨sv, fun k => ⟨_, _, h1.int, h2.int, k.here e (.int _)⟩⟩
theorem hu64 {k : Nat} {A : Around} (hr : RoomH k A) : A.units + 64 < cLine := by have := hr.un; omega
theorem roomH_le {j k : Nat} {A A' : Around} (hr : Room k A) (h : j ≤ k) (h1 : A'.depth = A.depth := by rfl) (h2 : A'.units = A.units := by rfl) : RoomH j A' := ⟨by have := hr.dp; omega, by have := hr.un; omega⟩
theorem kit_sub {K : Frag} {C E : Addr} {b : Bool} (h0 : PySem.W.subIn K (.ref C) (.ref C) = some true) (h : PySem.W.subIn K (.ref C) (.ref E) = some b) (hd : PySem.W.hasDictIn K E = true) (ht : PySem.W.typeIn K (.ref E) = some (.type "type")) : PySem.W.kitOne K (.ref C) (.ref E) = some b := by
  obtain ⟨cd, hc, _⟩ := PySem.W.any_some hd
  unfold PySem.W.kitOne
  by_cases e : C = E
  · subst e
    rw [h0] at h
    rw [if_pos (beq_self_eq_true _)]
    exact h
  · rw [if_neg (fun z => e (Value.ref.inj (beq_iff_eq.mp z)))]
    unfold PySem.W.kitCls
    simp only [hc, ht, Option.isSome_some, beq_self_eq_true, Bool.and_self, if_true]
    exact h
end Pd
end
section
set_option Elab.async false
set_option linter.all false
set_option maxRecDepth 100000
set_option maxHeartbeats 4000000
/-! reading the evaluator: each form at a state -/
namespace Pd
open PySem L2
variable {ρ ρ1 : Env} {r : Res} {k k2 : Bool} {c : String} {rs : List Res} {ds : List D} {i j n : Nat} {a b e : Ev} {t s : EvT} {ta : EvA} {p l u : EvP} {d : D}
@[simp] theorem y_bd1 {q : Res → Env → Out} : (Out.ok r ρ).bd q = q r ρ := rfl
@[simp] theorem y_bd2 {q : Res → Env → Out} : (Out.ex c ρ).bd q = .ex c ρ := rfl
@[simp] theorem y_bd3 {q : Res → Env → Out} : Out.bad.bd q = .bad := rfl
@[simp] theorem y_bt1 {q : Bool → Env → OutT} : (OutT.ok k ρ).bd q = q k ρ := rfl
@[simp] theorem y_bt2 {q : Bool → Env → OutT} : (OutT.ex c ρ).bd q = .ex c ρ := rfl
@[simp] theorem y_bt3 {q : Bool → Env → OutT} : OutT.bad.bd q = .bad := rfl
@[simp] theorem y_bdT1 {q : Res → Env → OutT} : (Out.ok r ρ).bdT q = q r ρ := rfl
@[simp] theorem y_bdT2 {q : Res → Env → OutT} : (Out.ex c ρ).bdT q = .ex c ρ := rfl
@[simp] theorem y_bdT3 {q : Res → Env → OutT} : Out.bad.bdT q = .bad := rfl
@[simp] theorem y_bdE1 {q : Bool → Env → Out} : (OutT.ok k ρ).bdE q = q k ρ := rfl
@[simp] theorem y_bdE2 {q : Bool → Env → Out} : (OutT.ex c ρ).bdE q = .ex c ρ := rfl
@[simp] theorem y_bdE3 {q : Bool → Env → Out} : OutT.bad.bdE q = .bad := rfl
@[simp] theorem y_ba1 {q : List Res → Env → OutA} : (OutA.ok rs ρ).bd q = q rs ρ := rfl
@[simp] theorem y_ba2 {q : List Res → Env → OutA} : (OutA.ex c ρ).bd q = .ex c ρ := rfl
@[simp] theorem y_ba3 {q : List Res → Env → OutA} : OutA.bad.bd q = .bad := rfl
@[simp] theorem y_bdA1 {q : Res → Env → OutA} : (Out.ok r ρ).bdA q = q r ρ := rfl
@[simp] theorem y_bdA2 {q : Res → Env → OutA} : (Out.ex c ρ).bdA q = .ex c ρ := rfl
@[simp] theorem y_bdA3 {q : Res → Env → OutA} : Out.bad.bdA q = .bad := rfl
@[simp] theorem y_baE1 {q : List Res → Env → Out} : (OutA.ok rs ρ).bdE q = q rs ρ := rfl
@[simp] theorem y_baE2 {q : List Res → Env → Out} : (OutA.ex c ρ).bdE q = .ex c ρ := rfl
@[simp] theorem y_baE3 {q : List Res → Env → Out} : OutA.bad.bdE q = .bad := rfl
@[simp] theorem y_bdS1 {q : Res → Env → SOut} : (Out.ok r ρ).bdS q = q r ρ := rfl
@[simp] theorem y_bdS2 {q : Res → Env → SOut} : (Out.ex c ρ).bdS q = .ex c ρ := rfl
@[simp] theorem y_bdS3 {q : Res → Env → SOut} : Out.bad.bdS q = .bad := rfl
@[simp] theorem y_btS1 {q : Bool → Env → SOut} : (OutT.ok k ρ).bdS q = q k ρ := rfl
@[simp] theorem y_btS2 {q : Bool → Env → SOut} : (OutT.ex c ρ).bdS q = .ex c ρ := rfl
@[simp] theorem y_btS3 {q : Bool → Env → SOut} : OutT.bad.bdS q = .bad := rfl
@[simp] theorem y_bdI1 {q : Res → Env → OutI} : (Out.ok r ρ).bdI q = q r ρ := rfl
@[simp] theorem y_bdI2 {q : Res → Env → OutI} : (Out.ex c ρ).bdI q = .ex c ρ := rfl
@[simp] theorem y_baI1 {q : List Res → Env → OutI} : (OutA.ok rs ρ).bdI q = q rs ρ := rfl
@[simp] theorem y_baI2 {q : List Res → Env → OutI} : (OutA.ex c ρ).bdI q = .ex c ρ := rfl
@[simp] theorem y_biS1 {q : List D → Env → SOut} : (OutI.ok ds ρ).bdS q = q ds ρ := rfl
@[simp] theorem y_biS2 {q : List D → Env → SOut} : (OutI.ex c ρ).bdS q = .ex c ρ := rfl
@[simp] theorem y_biE1 {q : List D → Env → Out} : (OutI.ok ds ρ).bdE q = q ds ρ := rfl
@[simp] theorem y_biE2 {q : List D → Env → Out} : (OutI.ex c ρ).bdE q = .ex c ρ := rfl
@[simp] theorem y_bp1 {q : Option Int → Env → Out} {o : Option Int} : (OutP.ok o ρ).bd q = q o ρ := rfl
@[simp] theorem y_bp2 {q : Option Int → Env → Out} : (OutP.ex c ρ).bd q = .ex c ρ := rfl
@[simp] theorem y_look1 : look ρ (.v d) = some d := rfl
@[simp] theorem y_look2 : look ρ (.f d) = some d := rfl
@[simp] theorem y_look3 : look ρ (.s i) = (match ρ[i]? with
    | some (.o d) => some d
    | some (.b d) => some d
    | some (.v d) => some d
    | _ => none) := rfl
@[simp] theorem y_hold1 : (Res.v d).hold = .v d := rfl
@[simp] theorem y_hold2 : (Res.f d).hold = .v d := rfl
@[simp] theorem y_hold3 : (Res.s i).hold = .s i := rfl
@[simp] theorem y_var : eVar i ρ = (match ρ[i]? with
  | some (.v d) => .ok (.v d) ρ
  | some (.o _) => .ok (.s i) ρ
  | some (.b _) => .ok (.s i) ρ
  | _ => .bad) := rfl
@[simp] theorem y_c : eC d ρ = .ok (.v d) ρ := rfl
@[simp] theorem y_ret1 {x : Res} : retOp ρ (some x) = .ok x ρ := rfl
@[simp] theorem y_ret2 : retOp ρ none = .bad := rfl
@[simp] theorem y_op {f : D → D → Option Res} : eOp f a b ρ = (a ρ).bd fun r1 ρ1 => (b ρ1).bd fun r2 ρ2 => match look ρ2 r1, look ρ2 r2 with
  | some d1, some d2 => retOp ρ2 (f d1 d2)
  | _, _ => .bad := rfl
@[simp] theorem y_opT {f : D → D → Option Bool} : eOpT f a b ρ = (a ρ).bdT fun r1 ρ1 => (b ρ1).bdT fun r2 ρ2 => match look ρ2 r1, look ρ2 r2 with
  | some d1, some d2 => match f d1 d2 with
    | some k => .ok k ρ2
    | none => .bad
  | _, _ => .bad := rfl
@[simp] theorem y_boolRes {f : D → D → Option Bool} {x y : D} : boolRes f x y = (f x y).map fun b => .v (.bool b) := rfl
@[simp] theorem y_B : eB a ρ = (a ρ).bdT fun r ρ1 => match look ρ1 r with
  | some (.bool k) => .ok k ρ1
  | _ => .bad := rfl
@[simp] theorem y_and : eAnd t s ρ = (t ρ).bd fun k ρ1 => match k with
  | true => s ρ1
  | false => .ok false ρ1 := rfl
@[simp] theorem y_or : eOr t s ρ = (t ρ).bd fun k ρ1 => match k with
  | true => .ok true ρ1
  | false => s ρ1 := rfl
@[simp] theorem y_not : eNot t ρ = (t ρ).bd fun k ρ1 => .ok (!k) ρ1 := rfl
@[simp] theorem y_T : eT t ρ = (t ρ).bdE fun k ρ1 => .ok (.v (.bool k)) ρ1 := rfl
@[simp] theorem y_if : eIf t a b ρ = (t ρ).bdE fun k ρ1 => match k with
  | true => a ρ1
  | false => b ρ1 := rfl
@[simp] theorem y_andV : eAndV a b ρ = (a ρ).bd fun r ρ1 => match look ρ1 r with
  | some (.bool true) => b ρ1
  | some (.bool false) => .ok (.v (.bool false)) ρ1
  | _ => .bad := rfl
@[simp] theorem y_orV : eOrV a b ρ = (a ρ).bd fun r ρ1 => match look ρ1 r with
  | some (.bool true) => .ok (.v (.bool true)) ρ1
  | some (.bool false) => b ρ1
  | _ => .bad := rfl
@[simp] theorem y_notV : eNotV a ρ = (a ρ).bd fun r ρ1 => match look ρ1 r with
  | some (.bool k) => .ok (.v (.bool (!k))) ρ1
  | _ => .bad := rfl
@[simp] theorem y_chain {f g : D → D → Option Bool} : eChain f g a b e ρ = (a ρ).bdT fun r1 ρ1 => (b ρ1).bdT fun r2 ρ2 => match look ρ2 r1, look ρ2 r2 with
  | some d1, some d2 => match f d1 d2 with
    | some true => (e ρ2).bdT fun r3 ρ3 => match look ρ3 r2, look ρ3 r3 with
      | some e2, some d3 => match g e2 d3 with
        | some k => .ok k ρ3
        | none => .bad
      | _, _ => .bad
    | some false => .ok false ρ2
    | none => .bad
  | _, _ => .bad := rfl
@[simp] theorem y_e1 {f : D → Option Res} : e1 f a ρ = (a ρ).bd fun r1 ρ1 => match look ρ1 r1 with
  | some d1 => retOp ρ1 (f d1)
  | _ => .bad := rfl
@[simp] theorem y_pNo : pNo ρ = .ok none ρ := rfl
@[simp] theorem y_pAt : pAt a ρ = (match a ρ with
  | .ok r ρ1 => match look ρ1 r with
    | some (.int i) => .ok (some i) ρ1
    | _ => .bad
  | .ex c ρ1 => .ex c ρ1
  | .bad => .bad) := rfl
@[simp] theorem y_sl : eSl a l u ρ = (a ρ).bd fun r ρ1 => (l ρ1).bd fun l ρ2 => (u ρ2).bd fun u ρ3 => match look ρ3 r with
  | some d => retOp ρ3 (fSl d l u)
  | none => .bad := rfl
@[simp] theorem y_aNil : aNil ρ = .ok [] ρ := rfl
@[simp] theorem y_aCons : aCons a ta ρ = (a ρ).bdA fun r1 ρ1 => (ta ρ1).bd fun rs ρ2 => .ok (r1.hold :: rs) ρ2 := rfl
@[simp] theorem y_looks1 : looks ρ [] = some [] := rfl
@[simp] theorem y_looks2 : looks ρ (r :: rs) = (match look ρ r, looks ρ rs with
  | some d, some ds => some (d :: ds)
  | _, _ => none) := rfl
@[simp] theorem y_frz1 : frzR ρ (.v d) = some (d, ρ) := rfl
@[simp] theorem y_frz2 : frzR ρ (.f d) = some (d, ρ) := rfl
@[simp] theorem y_frz3 : frzR ρ (.s i) = (match ρ[i]? with
    | some (.o d) => some (d, ρ.set i (.v d))
    | some (.v d) => some (d, ρ)
    | _ => none) := rfl
@[simp] theorem y_frzs1 : frzs ρ [] = some ([], ρ) := rfl
@[simp] theorem y_frzs2 : frzs ρ (r :: rs) = (match frzR ρ r with
  | some (d, ρ1) => match frzs ρ1 rs with
    | some (ds, ρ2) => some (d :: ds, ρ2)
    | none => none
  | none => none) := rfl
@[simp] theorem y_tup : eTup ta ρ = (ta ρ).bdE fun rs ρ1 => match frzs ρ1 rs with
  | some (ds, ρ2) => if lineOk ds.length then .ok (.v (.tuple ds)) ρ2 else .bad
  | none => .bad := rfl
@[simp] theorem y_lst : eLst ta ρ = (ta ρ).bdE fun rs ρ1 => match frzs ρ1 rs with
  | some (ds, ρ2) => if lineOk ds.length then .ok (.f (.list ds)) ρ2 else .bad
  | none => .bad := rfl
@[simp] theorem y_blt {f : List D → Option Res} : eBlt f ta ρ = (ta ρ).bdE fun rs ρ1 => match looks ρ1 rs with
  | some ds => retOp ρ1 (f ds)
  | none => .bad := rfl
@[simp] theorem y_call {f : Fn} : eCall n f ta ρ = (ta ρ).bdE fun rs ρ1 => match looks ρ1 rs with
  | some ds => if ds.length = n then endCall ρ1 rs (f ds) else .bad
  | none => .bad := rfl
@[simp] theorem y_end1 {os : List D} : endCall ρ rs (.ret d os) = (if scal d then .ok (.v d) ρ else match frzs ρ rs with
    | some (_, ρ2) => .ok (.v d) ρ2
    | none => .bad) := rfl
@[simp] theorem y_end2 {os : List D} : endCall ρ rs (.own d os) = (match frzs ρ rs with
    | some (_, ρ2) => .ok (.f d) ρ2
    | none => .bad) := rfl
@[simp] theorem y_end3 {os : List D} : endCall ρ rs (.ex c os) = .ex c ρ := rfl
@[simp] theorem y_end4 : endCall ρ rs .bad = .bad := rfl
@[simp] theorem y_scal1 : scal .none = true := rfl
@[simp] theorem y_scal2 : scal (.bool k) = true := rfl
@[simp] theorem y_scal3 {z : Int} : scal (.int z) = true := rfl
@[simp] theorem y_scal4 {z : Str} : scal (.str z) = true := rfl
@[simp] theorem y_scal5 : scal (.list ds) = false := rfl
@[simp] theorem y_scal6 : scal (.tuple ds) = false := rfl
@[simp] theorem y_pass1 : pass ρ [] [] = some ([], [], ρ) := rfl
@[simp] theorem y_pass2 {ms : List Bool} : pass ρ (false :: ms) (r :: rs) = (match frzR ρ r with
    | some (d, ρ1) => match pass ρ1 ms rs with
      | some (ds, is, ρ2) => some (d :: ds, is, ρ2)
      | none => none
    | none => none) := rfl
@[simp] theorem y_pass3 {ms : List Bool} : pass ρ (true :: ms) (.s i :: rs) = (match pass ρ ms rs with
    | some (ds, is, ρ2) => if i ∈ is then none else match mineAt ρ2 i with
      | some (_, d) => some (d :: ds, i :: is, ρ2)
      | none => none
    | none => none) := rfl
@[simp] theorem y_mine : mineAt ρ i = (match ρ[i]? with
  | some s => match s.mine with
    | some d => some (s, d)
    | none => none
  | none => none) := rfl
@[simp] theorem y_m1 : (Sl.o d).mine = some d := rfl
@[simp] theorem y_m2 : (Sl.b d).mine = some d := rfl
@[simp] theorem y_m3 : (Sl.v d).mine = none := rfl
@[simp] theorem y_m4 : Sl.u.mine = none := rfl
@[simp] theorem y_w1 {d' : D} : (Sl.o d).with d' = .o d' := rfl
@[simp] theorem y_w2 {d' : D} : (Sl.b d).with d' = .b d' := rfl
@[simp] theorem y_upd1 : updS ρ [] [] = ρ := rfl
@[simp] theorem y_upd2 {is : List Nat} : updS ρ (i :: is) (d :: ds) = updS (match ρ[i]? with
    | some s => ρ.set i (s.with d)
    | none => ρ) is ds := rfl
@[simp] theorem y_callM {ms : List Bool} {f : Fn} : eCallM ms f ta ρ = (ta ρ).bdE fun rs ρ1 => match pass ρ1 ms rs with
  | some (ds, is, ρ2) => match f ds with
    | .ret d os => .ok (.v d) (updS ρ2 is os)
    | .own d os => .ok (.f d) (updS ρ2 is os)
    | .ex c os => .ex c (updS ρ2 is os)
    | .bad => .bad
  | none => .bad := rfl
@[simp] theorem y_met {T : String} {f : D → List D → Option (D × D)} : eMet T i f ta ρ = (match mineAt ρ i with
  | some (_, d0) => if kindIs T d0 then (ta ρ).bdE fun rs ρ1 => match frzs ρ1 rs with
    | some (ds, ρ2) => match mineAt ρ2 i with
      | some (s, d) => match f d ds with
        | some (d', res) => .ok (.v res) (ρ2.set i (s.with d'))
        | none => .bad
      | none => .bad
    | none => .bad
    else .bad
  | none => .bad) := rfl
@[simp] theorem y_kind1 : kindIs "list" (.list ds) = true := rfl
@[simp] theorem y_isi {T : String} : fIsiV T d = (match kindOf d with
  | some a => if a = "dict" then none else some (.v (.bool (isT a T)))
  | none => none) := rfl
@[simp] theorem y_k1 : kindOf .none = some "NoneType" := rfl
@[simp] theorem y_k2 : kindOf (.bool k) = some "bool" := rfl
@[simp] theorem y_k3 {z : Int} : kindOf (.int z) = some "int" := rfl
@[simp] theorem y_k4 {z : Str} : kindOf (.str z) = some "str" := rfl
@[simp] theorem y_k5 : kindOf (.list ds) = some "list" := rfl
@[simp] theorem y_k6 : kindOf (.tuple ds) = some "tuple" := rfl
@[simp] theorem y_isT {x y : String} : isT x y = (x == y || (x == "bool" && y == "int")) := rfl
-- statements
variable {S R : Sv}
@[simp] theorem y_seq : sSeq S R ρ = (match S ρ with
  | .nx ρ1 => R ρ1
  | o => o) := rfl
@[simp] theorem y_nx : sNx ρ = .nx ρ := rfl
@[simp] theorem y_sret : sRet a ρ = (a ρ).bdS fun r ρ1 => .rt r ρ1 := rfl
@[simp] theorem y_sretN : sRetN ρ = .rt (.v .none) ρ := rfl
@[simp] theorem y_drop : sDrop a ρ = (a ρ).bdS fun _ ρ1 => .nx ρ1 := rfl
@[simp] theorem y_sif : sIf t S R ρ = (t ρ).bdS fun k ρ1 => match k with
  | true => S ρ1
  | false => R ρ1 := rfl
@[simp] theorem y_setR1 : setR ρ i (.v d) = some (ρ.set i (.v d)) := rfl
@[simp] theorem y_setR2 : setR ρ i (.f d) = some (ρ.set i (.o d)) := rfl
@[simp] theorem y_setR3 : setR ρ i (.s j) = (match frzR ρ (.s j) with
    | some (d, ρ') => some (ρ'.set i (.v d))
    | none => none) := rfl
@[simp] theorem y_sset : sSet i a ρ = (a ρ).bdS fun r ρ1 => match setR ρ1 i r with
  | some ρ2 => .nx ρ2
  | none => .bad := rfl
@[simp] theorem y_bk : sBk ρ = .bk ρ := rfl
@[simp] theorem y_ct : sCt ρ = .ct ρ := rfl
@[simp] theorem y_raise : sRaise c ρ = .ex c ρ := rfl
@[simp] theorem y_tgN : tgN i d ρ = some (ρ.set i (.v d)) := rfl
@[simp] theorem y_go1 : goT [] [] ρ = some ρ := rfl
@[simp] theorem y_go2 {g : Tg} {gs : List Tg} : goT (g :: gs) (d :: ds) ρ = (match g d ρ with
    | some ρ1 => goT gs ds ρ1
    | none => none) := rfl
@[simp] theorem y_tgT1 {gs : List Tg} : tgT gs (.tuple ds) ρ = goT gs ds ρ := rfl
@[simp] theorem y_tgT2 {gs : List Tg} : tgT gs (.list ds) ρ = goT gs ds ρ := rfl
@[simp] theorem y_tgQ {gs : List Tg} : tgQ gs (.tuple ds) ρ = goT gs ds ρ := rfl
@[simp] theorem y_unp {gs : List Tg} : sUnp gs a ρ = (a ρ).bdS fun r ρ1 => match look ρ1 r with
  | some d => match tgT gs d ρ1 with
    | some ρ2 => .nx ρ2
    | none => .bad
  | none => .bad := rfl
@[simp] theorem y_aug {f : D → D → Option Res} : sAug i f a ρ = (match ρ[i]? with
  | some (.v d0) => (a ρ).bdS fun r ρ1 => match look ρ1 r with
    | some d1 => match f d0 d1 with
      | some (.v d2) => .nx (ρ1.set i (.v d2))
      | _ => .bad
    | none => .bad
  | _ => .bad) := rfl
@[simp] theorem y_put {z : Bool} : sPut z i b a ρ = (a ρ).bdS fun r ρ1 => match mineAt ρ1 i with
  | some _ => (b ρ1).bdS fun r2 ρ2 => match look ρ2 r2, frzR ρ2 r.hold with
    | some k, some (y, ρ3) => match mineAt ρ3 i with
      | some (s, d) => match fPut z d k y with
        | some d' => .nx (ρ3.set i (s.with d'))
        | none => .bad
      | none => .bad
    | _, _ => .bad
  | none => .bad := rfl
@[simp] theorem y_own1 : aOwn [] ρ = .ok [] ρ := rfl
@[simp] theorem y_own2 {es : List Ev} : aOwn (a :: es) ρ = (a ρ).bdA fun r ρ1 => (aOwn es ρ1).bd fun rs ρ2 => .ok (r :: rs) ρ2 := rfl
@[simp] theorem y_frzF1 : frzF ρ [] = some ([], ρ) := rfl
@[simp] theorem y_frzF2 : frzF ρ (.v d :: rs) = (match frzF ρ rs with
    | some (qs, ρ2) => some (.v d :: qs, ρ2)
    | none => none) := rfl
@[simp] theorem y_frzF3 : frzF ρ (.f d :: rs) = (match frzF ρ rs with
    | some (qs, ρ2) => some (.f d :: qs, ρ2)
    | none => none) := rfl
@[simp] theorem y_frzF4 : frzF ρ (.s i :: rs) = (match frzR ρ (.s i) with
    | some (d, ρ1) => match frzF ρ1 rs with
      | some (qs, ρ2) => some (.v d :: qs, ρ2)
      | none => none
    | none => none) := rfl
@[simp] theorem y_putF1 : putF ρ [] [] = some ρ := rfl
@[simp] theorem y_putF2 {is : List Nat} : putF ρ (i :: is) (.v d :: rs) = putF (ρ.set i (.v d)) is rs := rfl
@[simp] theorem y_putF3 {is : List Nat} : putF ρ (i :: is) (.f d :: rs) = putF (ρ.set i (.o d)) is rs := rfl
@[simp] theorem y_par {is : List Nat} {es : List Ev} : sPar is es ρ = (match aOwn es ρ with
  | .ok rs ρ1 => match frzF ρ1 rs with
    | some (qs, ρ2) => match putF ρ2 is qs with
      | some ρ3 => .nx ρ3
      | none => .bad
    | none => .bad
  | .ex c ρ1 => .ex c ρ1
  | .bad => .bad) := rfl
@[simp] theorem y_for {it : EvI} {g : Tg} : sFor it g S ρ = (it ρ).bdS fun ds ρ1 => forF g S ds ρ1 := rfl
@[simp] theorem y_lc {vs : List Nat} {g : Tg} {it : EvI} : eLc vs g t a it ρ = (it ρ).bdE fun ds ρ1 => if lineOk ds.length then match compF vs g t a ds (wipeE ρ1 vs) with
  | some (rs, ρ2) => .ok (.f (.list rs)) (unwipe ρ1 ρ2 vs)
  | none => .bad
  else .bad := rfl
@[simp] theorem y_seqI : iSeq a ρ = (a ρ).bdI fun r ρ1 => match frzR ρ1 r with
  | some (.list ds, ρ2) => .ok ds ρ2
  | some (.tuple ds, ρ2) => .ok ds ρ2
  | some (.str s, ρ2) => .ok (signs s) ρ2
  | some (d, ρ2) => match scrOf d with
    | some ds => .ok ds ρ2
    | none => .bad
  | none => .bad := rfl
@[simp] theorem y_seqL : iSeqL a ρ = (a ρ).bdI fun r ρ1 => match frzR ρ1 r with
  | some (.list ds, ρ2) => .ok ds ρ2
  | _ => .bad := rfl
@[simp] theorem y_rng {f : List D → Option (List D)} : iRange f ta ρ = (ta ρ).bdI fun rs ρ1 => match looks ρ1 rs with
  | some ds => match f ds with
    | some es => .ok es ρ1
    | none => .bad
  | none => .bad := rfl
@[simp] theorem y_tTrue : tTrue ρ = .ok true ρ := rfl
@[simp] theorem y_wipe1 : wipeE ρ [] = ρ := rfl
@[simp] theorem y_wipe2 {vs : List Nat} : wipeE ρ (i :: vs) = (wipeE ρ vs).set i .u := rfl
@[simp] theorem y_unw1 {ρ0 : Env} : unwipe ρ0 ρ [] = ρ := rfl
@[simp] theorem y_unw2 {ρ0 : Env} {vs : List Nat} : unwipe ρ0 ρ (i :: vs) = (unwipe ρ0 ρ vs).set i (backS ρ0[i]?) := rfl
@[simp] theorem y_back1 : backS (some (.v d)) = .v d := rfl
@[simp] theorem y_back2 : backS (some .u) = .u := rfl
@[simp] theorem y_back3 : backS (some (.o d)) = .u := rfl
-- operations on ints
variable {x y : Int}
@[simp] theorem y_add : fAdd (.int x) (.int y) = some (.v (.int (x + y))) := rfl
@[simp] theorem y_addI : fAddI (.int x) (.int y) = some (.v (.int (x + y))) := rfl
@[simp] theorem y_sub : fSub (.int x) (.int y) = some (.v (.int (x - y))) := rfl
@[simp] theorem y_mul : fMul (.int x) (.int y) = if mulFits x y then some (.v (.int (x * y))) else none := rfl
@[simp] theorem y_div : fDiv (.int x) (.int y) = if divOk y then some (.v (.int (x / y))) else if divN y then some (.v (.int (x.fdiv y))) else none := rfl
@[simp] theorem y_pow : fPow (.int x) (.int y) = if powOk x y then some (.v (.int (x ^ y.toNat))) else none := rfl
@[simp] theorem y_shl : fShl (.int x) (.int y) = if powOk x y then some (.v (.int (x * 2 ^ y.toNat))) else none := rfl
@[simp] theorem y_shr : fShr (.int x) (.int y) = if 0 ≤ y then some (.v (.int (x / 2 ^ y.toNat))) else none := rfl
@[simp] theorem y_xor : fXor (.int x) (.int y) = some (.v (.int (Builtin.bitXor x y))) := rfl
@[simp] theorem y_rep {k : Int} : fMul (.list ds) (.int k) = if manyOk k && lineOk (ds.length * k.toNat) then some (.f (.list (List.replicate k.toNat ds).flatten)) else none := rfl
@[simp] theorem y_cat {es : List D} : fAdd (.list ds) (.list es) = if lineOk (ds.length + es.length) then some (.f (.list (ds ++ es))) else none := rfl
@[simp] theorem y_catT {es : List D} : fAdd (.tuple ds) (.tuple es) = if lineOk (ds.length + es.length) then some (.v (.tuple (ds ++ es))) else none := rfl
@[simp] theorem y_mod : fMod (.int x) (.int y) = if 0 < y then some (.v (.int (x % y))) else if y ≠ 0 then some (.v (.int (x.fmod y))) else none := rfl
@[simp] theorem y_neg : fNeg (.int x) = some (.v (.int (-x))) := rfl
@[simp] theorem y_lt : fLt (.int x) (.int y) = some (decide (x < y)) := rfl
@[simp] theorem y_le : fLe (.int x) (.int y) = some (decide (x ≤ y)) := rfl
@[simp] theorem y_gt : fGt (.int x) (.int y) = some (decide (y < x)) := rfl
@[simp] theorem y_ge : fGe (.int x) (.int y) = some (decide (y ≤ x)) := rfl
theorem eqv_int : PyData.eqv (.int x) (.int y) = decide (x = y) := by
  unfold PyData.eqv
  by_cases h : x = y <;> simp [h]
@[simp] theorem y_eq : fEq (.int x) (.int y) = some (decide (x = y)) := by
  unfold fEq
  simp [fit, eqv_int]
@[simp] theorem y_ne : fNe (.int x) (.int y) = some (!decide (x = y)) := by
  unfold fNe
  simp [fit, eqv_int]
@[simp] theorem y_max : fMax [.int x, .int y] = some (.v (.int (if y > x then y else x))) := rfl
@[simp] theorem y_min : fMin [.int x, .int y] = some (.v (.int (if y < x then y else x))) := rfl
@[simp] theorem y_abs : fAbs [.int x] = some (.v (.int (if x < 0 then -x else x))) := rfl
@[simp] theorem y_int : fInt [.int x] = some (.v (.int x)) := rfl
@[simp] theorem y_len1 : fLen [.list ds] = some (.v (.int ds.length)) := rfl
@[simp] theorem y_len2 : fLen [.tuple ds] = some (.v (.int ds.length)) := rfl
@[simp] theorem y_ix1 {z : Bool} : fIx z (.list ds) (.int x) = (atI ds x).map .v := rfl
@[simp] theorem y_ix2 {z : Bool} : fIx z (.tuple ds) (.int x) = (atI ds x).map .v := rfl
@[simp] theorem lineOk_s {n : Nat} (h : n ≤ 16777216) : lineOk n = true := by
  unfold lineOk
  rw [sizeLine_eq]
  exact yes_iff.mpr h
theorem fits_l (h : -(2 ^ 64) < x ∧ x < 2 ^ 64) : mulFits x y = true := yes_iff.mpr (.inl h)
theorem fits_r (h : -(2 ^ 64) < y ∧ y < 2 ^ 64) : mulFits x y = true := yes_iff.mpr (.inr (.inl h))
@[simp] theorem fits_sl (h : -18446744073709551616 < x) (h' : x < 18446744073709551616) : mulFits x y = true := fits_l ⟨by omega, by omega⟩
@[simp] theorem fits_sr (h : -18446744073709551616 < y) (h' : y < 18446744073709551616) : mulFits x y = true := fits_r ⟨by omega, by omega⟩
@[simp] theorem divOk_s (h : 0 < y) (h' : y < 18446744073709551616) : divOk y = true := yes_iff.mpr ⟨h, by
  have : y.natAbs < 2 ^ 64 := by omega
  have h1 : y.natAbs.log2 < 64 := (Nat.log2_lt (by omega)).mpr this
  omega⟩
@[simp] theorem powOk_s (h : 0 ≤ y) (h' : y ≤ 1000000) (h2 : x.natAbs < 18446744073709551616) : powOk x y = true := yes_iff.mpr ⟨h, h', by omega⟩
@[simp] theorem manyOk_s (h : -9223372036854775808 ≤ x) (h' : x < 9223372036854775808) : manyOk x = true := yes_iff.mpr ⟨by omega, by omega⟩
@[simp] theorem y_try {kn km : String → Bool} {isE : String → String → Bool} {m : String} {S R : Sv} : sTry kn km isE m i S R ρ = (match S ρ with
  | .ex n ρ1 => if kn n && km m then (if isE n m then (if noE ρ1 then match R (ρ1.set i (.e n)) with
      | .nx ρ2 => if noE (ρ2.set i .u) then .nx (ρ2.set i .u) else .bad
      | .rt (.v d) ρ2 => if noE (ρ2.set i .u) then .rt (.v d) (ρ2.set i .u) else .bad
      | .bk ρ2 => if noE (ρ2.set i .u) then .bk (ρ2.set i .u) else .bad
      | .ct ρ2 => if noE (ρ2.set i .u) then .ct (ρ2.set i .u) else .bad
      | _ => .bad else .bad) else .ex n ρ1) else .bad
  | o => o) := rfl
@[simp] theorem y_callX {f : FnE} : eCallX i f ρ = (match ρ[i]? with
  | some (.e n) => match f n with
    | .ret d [] => .ok (.v d) ρ
    | _ => .bad
  | _ => .bad) := rfl
@[simp] theorem y_noE1 : noE [] = true := rfl
@[simp] theorem y_noE2 : noE (.u :: ρ) = noE ρ := rfl
@[simp] theorem y_noE3 : noE (.v d :: ρ) = noE ρ := rfl
@[simp] theorem y_noE4 : noE (.o d :: ρ) = noE ρ := rfl
@[simp] theorem y_noE5 : noE (.b d :: ρ) = noE ρ := rfl
/-! ### loops -/
theorem compF_map {α : Type} {vs : List Nat} {g : Tg} {c : EvT} {e : Ev} {ρ : Env} (w : α → D) (P : α → Bool) (h : α → D) : ∀ xs : List α,
    (∀ x ∈ xs, ∃ ρ1, g (w x) ρ = some ρ1 ∧ ∃ ρ2, c ρ1 = .ok (P x) ρ2 ∧ (P x = false → wipeE ρ2 vs = ρ) ∧ (P x = true → ∃ r ρ3 ρ4, e ρ2 = .ok r ρ3 ∧ frzR ρ3 r = some (h x, ρ4) ∧ wipeE ρ4 vs = ρ)) →
    compF vs g c e (xs.map w) ρ = some ((xs.filter P).map h, ρ)
  | [], _ => rfl
  | x :: xs, hx => by
    obtain ⟨ρ1, h1, ρ2, h2, h3, h4⟩ := hx x (List.mem_cons_self ..)
    have ih := compF_map w P h xs fun y hy => hx y (List.mem_cons_of_mem _ hy)
    rw [List.map_cons, compF, h1]
    simp only [h2]
    cases e : P x with
    | false =>
      simp only [h3 e]
      rw [ih, List.filter_cons, if_neg (by simp [e])]
    | true =>
      obtain ⟨r, ρ3, ρ4, k1, k2, k3⟩ := h4 e
      simp only [k1, k2, k3]
      rw [ih, List.filter_cons, if_pos e]
      rfl
/-- a loop that goes through -/
theorem forF_all {g : Tg} {S : Sv} {ds : List D} {ρ : Env} (I : Env → Prop) (h0 : I ρ) (h : ∀ d ∈ ds, ∀ ρ, I ρ → ∃ ρ1 ρ2, g d ρ = some ρ1 ∧ (S ρ1 = .nx ρ2 ∨ S ρ1 = .ct ρ2) ∧ I ρ2) : ∃ ρ', forF g S ds ρ = .nx ρ' ∧ I ρ' := by
  induction ds generalizing ρ with
  | nil => exact ⟨ρ, rfl, h0⟩
  | cons d ds ih =>
    obtain ⟨ρ1, ρ2, h1, h2, h3⟩ := h d (List.mem_cons_self ..) ρ h0
    obtain ⟨ρ', h4, h5⟩ := ih h3 fun d' hd => h d' (List.mem_cons_of_mem _ hd)
    refine ⟨ρ', ?_, h5⟩
    rw [forF, h1]
    rcases h2 with h2 | h2 <;> simp only [h2, h4]
/-- .. by the place -/
theorem forF_at {g : Tg} {S : Sv} {ds : List D} (I : Nat → Env → Prop) (h : ∀ i d, ds[i]? = some d → ∀ ρ, I i ρ → ∃ ρ1 ρ2, g d ρ = some ρ1 ∧ (S ρ1 = .nx ρ2 ∨ S ρ1 = .ct ρ2) ∧ I (i + 1) ρ2) {ρ : Env} (h0 : I 0 ρ) : ∃ ρ', forF g S ds ρ = .nx ρ' ∧ I ds.length ρ' := by
  induction ds generalizing I ρ with
  | nil => exact ⟨ρ, rfl, h0⟩
  | cons d ds ih =>
    obtain ⟨ρ1, ρ2, h1, h2, h3⟩ := h 0 d rfl ρ h0
    obtain ⟨ρ', h4, h5⟩ := ih (fun i => I (i + 1)) (fun i d' hd => h (i + 1) d' (by simpa using hd)) h3
    refine ⟨ρ', ?_, by simpa using h5⟩
    rw [forF, h1]
    rcases h2 with h2 | h2 <;> simp only [h2, h4]
/-- a while loop with a measure -/
theorem sWhile_inv {t : EvT} {S : Sv} (I : Nat → Env → Prop) (J : Env → Prop) (h : ∀ m ρ, I m ρ → (∃ ρ1, t ρ = .ok false ρ1 ∧ J ρ1) ∨ ∃ ρ1 ρ2 m', t ρ = .ok true ρ1 ∧ (S ρ1 = .nx ρ2 ∨ S ρ1 = .ct ρ2) ∧ m' < m ∧ I m' ρ2) : ∀ (m : Nat) (ρ : Env), I m ρ → ∃ ρ', sWhile t S ρ = .nx ρ' ∧ J ρ' := by
  intro m
  induction m using Nat.strongRecOn with
  | _ m ih =>
    intro ρ hi
    rw [sWhile_step]
    rcases h m ρ hi with ⟨ρ1, h1, h2⟩ | ⟨ρ1, ρ2, m', h1, h2, h3, h4⟩
    · exact ⟨ρ1, by rw [h1]; rfl, h2⟩
    · obtain ⟨ρ', h5, h6⟩ := ih m' h3 ρ2 h4
      refine ⟨ρ', ?_, h6⟩
      rw [h1]
      rcases h2 with h2 | h2 <;> simp only [y_btS1, h2, h5]
@[simp] theorem rng1_int {j : Int} (h : rngOk j = true) : rng1 [.int j] = some (rngD 0 j.toNat) := by simp [rng1, h]
@[simp] theorem rng2_int {i j : Int} (h : rngOk i = true) (h' : rngOk j = true) : rng2 [.int i, .int j] = some (rngD i (j - i).toNat) := by simp [rng2, h, h']
@[simp] theorem rngOk_s {j : Int} (h : -4611686018427387904 ≤ j) (h' : j < 4611686018427387904) : rngOk j = true := yes_iff.mpr ⟨by omega, by omega⟩
@[simp] theorem rngD_len {lo : Int} {n : Nat} : (rngD lo n).length = n := by simp [rngD]
theorem atI_k {xs : List D} {k : Nat} {d : D} (h : xs[k]? = some d) : atI xs (k : Int) = some d := by
  have hk := get_lt h
  unfold atI ixN
  rw [if_pos (by omega), if_pos (by omega)]
  simpa using h
theorem atI_i {xs : List D} {i : Int} {d : D} (h0 : 0 ≤ i) (h : xs[i.toNat]? = some d) : atI xs i = some d := by
  have := atI_k h
  rw [Int.toNat_of_nonneg h0] at this
  exact this
theorem atI_neg {xs : List D} {i : Int} {d : D} (h0 : i < 0) (h1 : -(xs.length : Int) ≤ i) (h : xs[(i + xs.length).toNat]? = some d) : atI xs i = some d := by
  unfold atI ixN
  rw [if_neg (by omega), if_pos h1]
  exact h
theorem cut_to {xs : List D} (k : Nat) : cutD xs none (some (k : Int)) = xs.take k := by
  unfold cutD
  rw [HT.sIx_none, HT.sIx_nat, List.drop_zero, Nat.sub_zero]
  by_cases h : k ≤ xs.length
  · rw [Nat.min_eq_left h]
  · rw [Nat.min_eq_right (by omega), List.take_length, List.take_of_length_le (by omega)]
theorem cut_from {xs : List D} (k : Nat) : cutD xs (some (k : Int)) none = xs.drop k := by
  unfold cutD
  rw [HT.sIx_none, HT.sIx_nat]
  by_cases h : k ≤ xs.length
  · rw [Nat.min_eq_left h, List.take_of_length_le (by rw [List.length_drop]; omega)]
  · rw [Nat.min_eq_right (by omega), Nat.sub_self, List.take_zero, List.drop_of_length_le (by omega)]
@[simp] theorem y_isN {d : D} : fIsN d .none = some (isNone d) := rfl
@[simp] theorem y_notN {d : D} : fNotN d .none = some (!isNone d) := rfl
@[simp] theorem y_isNone1 : isNone .none = true := rfl
@[simp] theorem y_isNone2 {z : Int} : isNone (.int z) = false := rfl
@[simp] theorem y_isNone3 {z : Str} : isNone (.str z) = false := rfl
@[simp] theorem y_isNone4 {ds : List D} : isNone (.tuple ds) = false := rfl
@[simp] theorem y_isNone5 {ds : List D} : isNone (.list ds) = false := rfl
@[simp] theorem y_isB {a b : Bool} : fIsN (.bool a) (.bool b) = some (a == b) := rfl
@[simp] theorem y_notB {a b : Bool} : fNotN (.bool a) (.bool b) = some (!(a == b)) := rfl
theorem fitAll_ints (n : Nat) : ∀ ns : List Int, fitAll n (ns.map PyData.int) = true
  | [] => by simp [fitAll]
  | _ :: r => by simp [fitAll, fit, fitAll_ints n r]
theorem fit_ints (ns : List Int) : fit 60 (.list (ns.map PyData.int)) = true := by
  rw [fit]
  exact fitAll_ints 59 ns
@[simp] theorem y_neNil : fNe (.list []) (.list []) = some false := by simp [fNe, fit, fitAll, PyData.eqv, PyData.eqvAll]
@[simp] theorem y_eqNil : fEq (.list []) (.list []) = some true := by simp [fEq, fit, fitAll, PyData.eqv, PyData.eqvAll]
theorem y_neInts (ns : List Int) : fNe (.list (ns.map PyData.int)) (.list []) = some (!ns.isEmpty) := by
  unfold fNe
  rw [fit_ints]
  cases ns <;> simp [fit, fitAll, PyData.eqv, PyData.eqvAll]
theorem y_eqInts (ns : List Int) : fEq (.list (ns.map PyData.int)) (.list []) = some ns.isEmpty := by
  unfold fEq
  rw [fit_ints]
  cases ns <;> simp [fit, fitAll, PyData.eqv, PyData.eqvAll]
theorem y_neNoneInt {z : Int} : fNe .none (.int z) = some true := by simp [fNe, fit, PyData.eqv]
end Pd
end
section
set_option Elab.async false
set_option linter.all false
set_option maxRecDepth 100000
set_option maxHeartbeats 4000000
/-! a, b, c = x, y, z where a name is a cell: stored from the left, own objects kept -/
namespace Pd
open PySem PySem.Spec PyProof.Rows L2
def tParC (n : Nat) (ta : TA) (t : TGs) : TS := fun D σ H => ta σ H fun vs H1 => vs.length = n ∧ t vs σ H1 D.nx
theorem ps_parC {X : Cx} {pos : Pos} {es xs : List Expr} {ta : TA} {t : TGs} {pt : Pos} {kt k2 pt2} {n : Nat} (hc : X.calm = true) (ha : PA X xs ta) (hg : PGs X es t)
    (hl : n ≤ sizeLine) (hn : (assignEach es X.env).length = n) (hst : (assignEach es X.env).findIdx? (·.1) = none)
    (hw : swappedStores [.Tuple es kt pt] (.Tuple xs k2 pt2) X.env = pure none)
    (hs : swapsWithSole [.Tuple es kt pt] (.Tuple xs k2 pt2) pos.line X.env = pure false)
    (h1 : (assignEach [.Tuple es kt pt] X.env).map (·.2) = [assign (.Tuple es kt pt) X.env]) :
    PS X (.Assign [.Tuple es kt pt] (.Tuple xs k2 pt2) pos) (tParC n ta t) := by
  refine ⟨fun pins s σ H D I h => ?_⟩
  refine wpAny_Assign_stores (Tuple_ (thn (ha.run _ pins s σ H _ I h) fun us s1 ⟨vs, H1, I1, r1, q1⟩ => ?_)) hs hw
  obtain ⟨q0, q1⟩ := q1
  have ul : us.length = n := by rw [← q0, r1.length]
  refine wpAny_newObj_type ?_ (by show us.length ≤ sizeLine; omega)
  have I2 : Inv X pins σ H1 { s1 with heap := s1.heap.push { cls := .type "tuple", data := .seq us.toArray } } := I1.kept (t' := s1.toks) fun b o e => Heap.get?_push_of_some _ e
  rw [h1]
  show wpAny (model X.prog X.w) X.A (assign (.Tuple es kt pt) X.env (.ref s1.heap.objs.size)) _ _ _
  refine assign_Tuple_tuple (I.ok.hd hc) (IsTup.new s1.heap _) (by rw [hn]; simp [ul]) hst fun h' hx' => ?_
  have I3 := I2.kept (h' := h') (t' := s1.toks) fun b o e => hx' b o (Nat.ne_of_lt (Heap.lt_size e)) e
  refine thn (hg.run pins _ σ H1 vs _ _ I3 (by simpa using r1) q1) fun _ s2 q => q
def gNs : List Nat → TGs
  | [] => gNil
  | i :: is => gCons (gName i) (gNs is)
theorem gNs_ok : ∀ {is : List Nat} {vs : List V} {σ : L2.St} {H : Hp} {Q : L2.St → Hp → Prop}, is.length = vs.length → Q (setAll σ is vs) H → gNs is vs σ H Q
  | [], [], σ, H, Q, _, q => ⟨rfl, q⟩
  | [], _ :: _, _, _, _, h, _ => by simp at h
  | _ :: _, [], _, _, _, h, _ => by simp at h
  | i :: is, v :: vs, σ, H, Q, h, q => ⟨v, vs, rfl, gNs_ok (by simpa using h) q⟩
section
variable {X : Cx} {B : Bs} {W : WX} {pos : Pos} {es xs : List Expr} {as : List Ev} {pt : Pos} {kt k2 : Nat} {pt2 : Pos} {is : List Nat}
theorem gn_nil : PGs X [] (gNs []) := pgs_nil
theorem gn_cons {i : Nat} {nm : Str} {p : Pos} (hN : X.N.Nodup) (hi : X.N[i]? = some nm) (hx : Loc X.env.scope nm) (h : PGs X es (gNs is)) (hf : X.fn nm = true ∨ X.env.scope.names.lookup nm = some .local := by first | exact .inl rfl | exact .inr rfl | assumption)
    (hs : (assignEach (.Name nm p :: es) X.env).map (·.2) = assign (.Name nm p) X.env :: (assignEach es X.env).map (·.2) := by rfl) : PGs X (.Name nm p :: es) (gNs (i :: is)) := pgs_cons (pg_name hN hi hx hf) h hs
theorem s_parC (hc : X.calm = true) (hg : PGs X es (gNs is)) (ha : PAWD X B W xs as) (hl : is.length = as.length) (hl2 : as.length ≤ sizeLine) (hn : (assignEach es X.env).length = as.length) (hst : (assignEach es X.env).findIdx? (·.1) = none)
    (hw : swappedStores [.Tuple es kt pt] (.Tuple xs k2 pt2) X.env = pure none)
    (hs : swapsWithSole [.Tuple es kt pt] (.Tuple xs k2 pt2) pos.line X.env = pure false := by rfl)
    (h1 : (assignEach [.Tuple es kt pt] X.env).map (·.2) = [assign (.Tuple es kt pt) X.env] := by rfl) :
    PSD X B W (.Assign [.Tuple es kt pt] (.Tuple xs k2 pt2) pos) (sPar is as) :=
  ps_wk (ps_parC hc ha hg hl2 hn hst hw hs h1) fun D σ H h => tAW_wk _ (fun xs H' e q => ⟨e, gNs_ok (by omega) q⟩) (par_ok h)
end
end Pd
end
section
set_option Elab.async false
set_option linter.all false
set_option maxRecDepth 100000
set_option maxHeartbeats 4000000
namespace Pd
open PySem L2

/-! ### methods that read -/
def kindV (T : String) : D → Bool
  | .list _ => T == "list"
  | .str _ => T == "str"
  | _ => false
def eMetR (T : String) (f : D → List D → Option Res) (o : Ev) (t : EvA) : Ev := fun ρ => (o ρ).bd fun r ρ1 => match look ρ1 r with
  | some d0 => if kindV T d0 then (t ρ1).bdE fun rs ρ2 => match look ρ2 r, looks ρ2 rs with
    | some d, some ds => retOp ρ2 (f d ds)
    | _, _ => .bad
    else .bad
  | none => .bad
def MetD (c : Ct) (r : V → List V → Hp → VK → Prop) (f : D → List D → Option Res) : Prop := ∀ F H d ds x xs res Q, Ex F H → RdX c F H d x → RdXs c F H ds xs → f d ds = some res → (∀ i, res ≠ .s i) ∧ (NewOk c F H Q res → r x xs H Q)
section
variable {X : Cx} {B : Bs} {W : WX} {x y z e : Expr} {es : List Expr} {a b : Ev} {t : EvA} {pos apos cpos p : Pos} {F H : Hp} {σ : L2.St} {ρ : Env} {Q : VK} {K : Frag}
theorem tyV_rdx {c : Ct} {T : String} {d : D} {v : V} (e : Ex F H) (h : RdX c F H d v) (k : kindV T d = true) : tyV c.K T v H := by
  cases d with
  | list ds =>
    have k' : T = "list" := by simpa [kindV] using k
    obtain ⟨a, xs, rfl, r, _⟩ := h.list e
    exact .inl ⟨k', xs, .inl r⟩
  | str s =>
    have k' : T = "str" := by simpa [kindV] using k
    rw [h.str]
    exact k'
  | _ => exact absurd k (by simp [kindV])
theorem metR_ok {T : String} {r : V → List V → Hp → VK → Prop} {f : D → List D → Option Res} (hf : MetD B.c r f) (σ : L2.St) (H : Hp) (Q : VK) (h : tE B W (eMetR T f a t) σ H Q) : tBM B.c.K T r (tE B W a) (tA B W t) σ H Q := by
  obtain ⟨F, ρ, S, h⟩ := h
  refine bd_ok S h fun r1 ρ1 F1 H1 x e1 S1 R1 h1 => ?_
  obtain ⟨F1', e1', S1', R1'⟩ := R1.hold S1
  cases l0 : look ρ1 r1 with
  | none => simp only [l0] at h1; exact h1.elim
  | some d0 =>
    simp only [l0] at h1
    split at h1
    · rename_i hk
      refine ⟨tyV_rdx S1.ex (R1.rd S1 l0) hk, ?_⟩
      refine abd_ok S1' (h1.mono e1') fun rs ρ2 F2 H2 ys e2 S2 R2 h2 => ?_
      have R1'' : ResOk B F2 σ H2 ρ2 r1.hold x := R1'.move hold_ne e2
      cases l1 : look ρ2 r1 with
      | none => simp only [l1] at h2; exact h2.elim
      | some d1 =>
        cases l2 : looks ρ2 rs with
        | none => simp only [l1, l2] at h2; exact h2.elim
        | some ds =>
          simp only [l1, l2] at h2
          cases l3 : f d1 ds with
          | none => rw [l3] at h2; exact h2.elim
          | some res =>
            rw [l3] at h2
            obtain ⟨ns, k⟩ := hf F2 H2 d1 ds x ys res Q S2.ex (R1''.rd S2 (by rw [look_hold]; exact l1)) (looks_ok S2 R2 l2) l3
            exact k (newOk S2 h2 ns)
    · exact h1.elim
theorem d_metR {T id : String} {nm : Str} {r : V → List V → Hp → VK → Prop} {f : D → List D → Option Res} (hK : B.c.K = X.K) (pa : PlainAttrs T) (slot : Slot T nm id) (hty : typeOf (.builtin id) = pure (.type "method_descriptor")) (hm : MtR X id r) (hr : MetD B.c r f)
    (ho : PED X B W x a) (ha : PAD X B W (e :: es) t)
    (hbase : attributeBase x nm X.env (eval x X.env) = eval x X.env := by rfl)
    (hfew : ((backTo cpos (starEach (e :: es) X.env)).all (fun x => !x.1) && (backToKw cpos (keywordEach [] X.env)).all (fun x => x.1.isSome)
      && decide ((e :: es).length + ([] : List Keyword).length + (if ([] : List Keyword).isEmpty then 0 else 1) < 30)) = true := by rfl)
    (hline : (apos.endLine == cpos.line) = true := by rfl) (hs : starEach (e :: es) X.env = (false, eval e X.env) :: starEach es X.env := by rfl) (hplain : (backTo cpos (starEach es X.env)).any (·.1) = false := by rfl) :
    PED X B W (.Call (.Attribute x nm apos) (e :: es) [] cpos) (eMetR T f a t) := pe_wk (pe_bm pa slot hty hm ho ha hbase hfew hline hs hplain) fun σ H Q h => by
      rw [← hK]
      exact metR_ok hr σ H Q h
end
/-! ### index of flat values -/
def flatD : D → Bool
  | .none => true
  | .bool _ => true
  | .int _ => true
  | .str _ => true
  | _ => false
def mIndex : D → List D → Option Res
  | .list ds, [y] => if flatD y && ds.all flatD then (ds.findIdx? fun z => PyData.eqv z y).map fun j => .v (.int (j : Nat)) else none
  | _, _ => none
theorem Rep.flat {c : Ct} {F : Hp} {d : D} {v : V} (h : Rep c F d v) (k : flatD d = true) : flatV v = true := by
  cases h <;> first | rfl | cases k
theorem flat_eqv {c : Ct} {F G : Hp} {d e : D} {v w : V} (h : Rep c F d v) (h2 : Rep c G e w) (k : flatD d = true) (k2 : flatD e = true) : eqV v w = PyData.eqv d e := by
  cases h <;> (try cases k) <;> cases h2 <;> (try cases k2) <;> first | rfl | simp [eqV, PyData.eqv]
theorem RdX.flat {c : Ct} {F H : Hp} {d : D} {v : V} (h : RdX c F H d v) (k : flatD d = true) : Rep c F d v := by
  cases h with
  | rep h => exact h
  | own h => cases h <;> cases k
theorem Reps.flat {c : Ct} {F : Hp} : ∀ {ds : List D} {vs : List V}, Reps c F ds vs → ds.all flatD = true → vs.all flatV = true
  | [], _, .nil, _ => rfl
  | d :: ds, _, .cons h t, k => by
    simp only [List.all_cons, Bool.and_eq_true] at k ⊢
    exact ⟨h.flat k.1, Reps.flat t k.2⟩
theorem M_index {c : Ct} : MetD c (rIndex c.K) mIndex := by
  intro F H d ds x xs res Q e hx hxs hf
  match d, ds, hx, hxs, hf with
  | .list zs, [y], hx, hxs, hf =>
    simp only [mIndex] at hf
    split at hf
    · rename_i hc
      rw [Bool.and_eq_true] at hc
      rw [Option.map_eq_some_iff] at hf
      obtain ⟨j, hj, rfl⟩ := hf
      obtain ⟨v, rfl, hv⟩ := hxs.one
      obtain ⟨a, ws, rfl, ha, hr⟩ := hx.list e
      have hy := hv.flat hc.1
      obtain ⟨hj1, hj2, hj3⟩ := List.findIdx?_eq_some_iff_getElem.mp hj
      obtain ⟨z, hz, rz⟩ := hr.getD (List.getElem?_eq_getElem hj1)
      have fl : ∀ m (hm : m < zs.length), flatD zs[m] = true := fun m hm => List.all_eq_true.mp hc.2 _ (List.getElem_mem hm)
      refine ⟨sv, fun k => ⟨a, ws, v, j, z, rfl, rfl, .inl ha, hy.flat hc.1, hr.flat hc.2, hz, ?_, ?_, k.here e (.int _)⟩⟩
      · rw [flat_eqv rz hy (fl j hj1) hc.1]
        exact hj2
      · intro m z' hm hz'
        obtain ⟨dz, hd, rd⟩ := hr.get hz'
        have hml : m < zs.length := by omega
        rw [List.getElem?_eq_getElem hml] at hd
        cases hd
        rw [flat_eqv rd hy (fl m hml) hc.1]
        simpa using hj3 m hm
    · cases hf
end Pd
end
section
set_option Elab.async false
set_option linter.all false
set_option maxRecDepth 100000
set_option maxHeartbeats 4000000
namespace Pd
open PySem L2
section
variable {ρ : Env} {o : Ev} {t : EvA} {T : String} {f : D → List D → Option Res} {ds : List D} {s : Str} {x y : D}
@[simp] theorem y_metR : eMetR T f o t ρ = (o ρ).bd fun r ρ1 => match look ρ1 r with
  | some d0 => if kindV T d0 then (t ρ1).bdE fun rs ρ2 => match look ρ2 r, looks ρ2 rs with
    | some d, some ds => retOp ρ2 (f d ds)
    | _, _ => .bad
    else .bad
  | none => .bad := rfl
@[simp] theorem y_kindV1 : kindV "list" (.list ds) = true := rfl
@[simp] theorem y_kindV2 : kindV "str" (.str s) = true := rfl
@[simp] theorem y_revI {xs : List D} : fRev (.list xs) = some (.f (.list xs.reverse)) := rfl
end
/-! ### lists of ints -/
theorem eqvAll_ints : ∀ xs ys : List Int, PyData.eqvAll (xs.map PyData.int) (ys.map PyData.int) = decide (xs = ys)
  | [], [] => by simp [PyData.eqvAll]
  | [], _ :: _ => by simp [PyData.eqvAll]
  | _ :: _, [] => by simp [PyData.eqvAll]
  | x :: xs, y :: ys => by
    have ih := eqvAll_ints xs ys
    simp only [List.map_cons, PyData.eqvAll, ih, eqv_int]
    by_cases h : x = y <;> simp [h]
theorem eq_ints (xs ys : List Int) : fEq (.list (xs.map PyData.int)) (.list (ys.map PyData.int)) = some (decide (xs = ys)) := by
  unfold fEq
  rw [fit_ints, fit_ints]
  simp [PyData.eqv, eqvAll_ints]
theorem ne_ints (xs ys : List Int) : fNe (.list (xs.map PyData.int)) (.list (ys.map PyData.int)) = some (!decide (xs = ys)) := by
  unfold fNe
  rw [fit_ints, fit_ints]
  simp [PyData.eqv, eqvAll_ints]
theorem asInts_of {α : Type} (f : α → Int) : ∀ xs : List α, asInts (xs.map fun x => PyData.int (f x)) = some (xs.map f)
  | [] => rfl
  | x :: xs => by
    have := asInts_of f xs
    simp [asInts] at this ⊢
    simp [this]
theorem least_of {n : Int} {ns : List Int} {v : Int} (h : ∀ y ∈ n :: ns, v ≤ y) (h2 : v ∈ n :: ns) : leastI n ns = v := by
  have m := h _ (leastI_mem ns n)
  have l := leastI_le ns n
  have b : leastI n ns ≤ v := by
    rcases List.mem_cons.mp h2 with z | z
    · rw [z]; exact l.1
    · exact l.2 v z
  omega
theorem min_of {α : Type} (f : α → Int) {xs : List α} {v : Int} (h : ∀ x ∈ xs, v ≤ f x) (h2 : ∃ x ∈ xs, f x = v) : fMin [.list (xs.map fun x => PyData.int (f x))] = some (.v (.int v)) := by
  obtain ⟨x, hx, e1⟩ := h2
  simp only [fMin, asInts_of]
  cases e2 : xs.map f with
  | nil => cases xs with
    | nil => cases hx
    | cons a b => simp at e2
  | cons n ns =>
    have : leastI n ns = v := least_of (fun y hy => by
      rw [← e2, List.mem_map] at hy
      obtain ⟨z, hz, rfl⟩ := hy
      exact h z hz) (by rw [← e2, List.mem_map]; exact ⟨x, hx, e1⟩)
    simp [this]
/-- min, max of what is not empty -/
theorem min_ex {α : Type} (f : α → Int) {xs : List α} (h : xs ≠ []) : ∃ x ∈ xs, (∀ y ∈ xs, f x ≤ f y) ∧ fMin [.list (xs.map fun x => PyData.int (f x))] = some (.v (.int (f x))) := by
  cases xs with
  | nil => exact absurd rfl h
  | cons a b =>
    have m := leastI_mem (b.map f) (f a)
    have l := leastI_le (b.map f) (f a)
    rw [← List.map_cons, List.mem_map] at m
    obtain ⟨x, hx, e⟩ := m
    refine ⟨x, hx, fun y hy => ?_, ?_⟩
    · rw [e]
      rcases List.mem_cons.mp hy with rfl | hy
      · exact l.1
      · exact l.2 _ (List.mem_map.mpr ⟨y, hy, rfl⟩)
    · simp only [fMin, asInts_of]
      rw [e]
      rfl
theorem max_ex {α : Type} (f : α → Int) {xs : List α} (h : xs ≠ []) : ∃ x ∈ xs, (∀ y ∈ xs, f y ≤ f x) ∧ fMax [.list (xs.map fun x => PyData.int (f x))] = some (.v (.int (f x))) := by
  cases xs with
  | nil => exact absurd rfl h
  | cons a b =>
    have m := mostI_mem (b.map f) (f a)
    have l := mostI_le (b.map f) (f a)
    rw [← List.map_cons, List.mem_map] at m
    obtain ⟨x, hx, e⟩ := m
    refine ⟨x, hx, fun y hy => ?_, ?_⟩
    · rw [e]
      rcases List.mem_cons.mp hy with rfl | hy
      · exact l.1
      · exact l.2 _ (List.mem_map.mpr ⟨y, hy, rfl⟩)
    · simp only [fMax, asInts_of]
      rw [e]
      rfl
/-- xs[a:b] -/
theorem cut_mid {xs : List D} {a b : Nat} (h : b ≤ xs.length) : cutD xs (some (a : Int)) (some (b : Int)) = (xs.drop a).take (b - a) := by
  unfold cutD
  rw [HT.sIx_nat, HT.sIx_nat, Nat.min_eq_left h]
  by_cases h2 : a ≤ xs.length
  · rw [Nat.min_eq_left h2]
  · rw [Nat.min_eq_right (by omega), List.drop_of_length_le (by omega), List.drop_of_length_le (by omega), List.take_nil, List.take_nil]
/-- cuts of a row by places -/
theorem cut_row {f : Nat → D} {m : Nat} {a b : Int} (h0 : 0 ≤ a) (h1 : a ≤ b) (h2 : b ≤ m) : cutD ((List.range m).map f) (some a) (some b) = (List.range (b - a).toNat).map fun t => f (a.toNat + t) := by
  obtain ⟨x, rfl⟩ : ∃ x : Nat, a = x := ⟨a.toNat, by omega⟩
  obtain ⟨y, rfl⟩ : ∃ y : Nat, b = y := ⟨b.toNat, by omega⟩
  rw [cut_mid (by rw [List.length_map, List.length_range]; omega)]
  refine List.ext_getElem ?_ fun i g1 g2 => ?_
  · simp
    omega
  · simp
theorem cut_row0 {f : Nat → D} {m : Nat} {b : Int} (h0 : 0 ≤ b) (h2 : b ≤ m) : cutD ((List.range m).map f) none (some b) = (List.range b.toNat).map f := by
  have e2 : b = ((b.toNat : Nat) : Int) := by omega
  rw [e2, cut_to, ← List.map_take, List.take_range, Nat.min_eq_left (by omega)]
  rfl
end Pd
end
section
set_option Elab.async false
set_option linter.all false
set_option maxRecDepth 100000
set_option maxHeartbeats 4000000
namespace K77
open PySem L2 PyProof.Rows L2H Pd

def topS (i : Nat) : Stmt := PySem.Challenge.pw_printsheld_k77_whole_ribbons_to_and_fro.main.body.getD i (.Pass ⟨0, 0, 0, 0⟩)
def kn (n : String) : Bool := n == "NotThere" || n == "OutOfRange"
def km (n : String) : Bool := n == "Malformed" || n == "NotThere" || n == "OutOfRange" || n == "PrintError" || n == "Refused" || n == "TooMuch"
def isE (n m : String) : Bool := n == m || (n == "OutOfRange" && m == "PrintError") || (n == "Malformed" && m == "PrintError") || (n == "NotThere" && m == "PrintError") || (n == "Refused" && m == "PrintError") || (n == "TooMuch" && m == "PrintError")
def cd_KINDS : PyData := .tuple [.str "once", .str "twice"]
abbrev s__law_draws : Stmt := topS 21
abbrev N__law_draws : List Str := ["script", "draws", "cell", "seed", "k", "number", "first"]
theorem sc__law_draws : FnScope N__law_draws ["script"] (defScope s__law_draws) := ⟨rfl, rfl, rfl, by decide +kernel, rfl, by decide +kernel, by decide +kernel⟩
noncomputable def bd__law_draws : Sv :=
  sSeq (sSet 1 (eLst (aNil)))
  (sSeq (sFor (iSeq (eVar 0)) (tgN 2) (sSeq (sSet 5 (eBlt fAbs (aCons (eVar 2) (aNil))))
  (sSeq (sIf (eOpT fLt (eVar 5) (eOp fPow (eC (.int 10)) (eC (.int 18)))) (sSeq (sSet 6 (eOp fMod (eBlt fInt (aCons (eOp fAdd (eOp fMul (eVar 5) (eC (.int 48271))) (eC (.int 11))) (aNil))) (eC (.int 2147483647))))
  (sSeq (sDrop (eMet "list" 1 mAppend (aCons (eOp fMod (eBlt fInt (aCons (eOp fAdd (eOp fMul (eVar 6) (eC (.int 69621))) (eVar 5)) (aNil))) (eC (.int 2147483629))) (aNil))))
  (sSeq (sDrop (eMet "list" 1 mAppend (aCons (eOp fMod (eBlt fInt (aCons (eOp fAdd (eVar 6) (eOp fDiv (eVar 5) (eC (.int 7)))) (aNil))) (eC (.int 1000003))) (aNil))))
  (sSet 5 (eC (.int 0)))))) (sNx))
  (sFor (iRange rng1 (aCons (eC (.int 60)) (aNil))) (tgN 4) (sIf (eOpT fGt (eVar 5) (eC (.int 0))) (sSeq (sDrop (eMet "list" 1 mAppend (aCons (eOp fMod (eBlt fInt (aCons (eVar 5) (aNil))) (eC (.int 997))) (aNil))))
  (sSet 5 (eOp fDiv (eVar 5) (eC (.int 997))))) (sNx))))))
  (sSeq (sSet 3 (eC (.int 1)))
  (sSeq (sIf (eOpT fGt (eBlt fLen (aCons (eVar 0) (aNil))) (eC (.int 0))) (sSet 3 (eOp fAdd (eC (.int 1)) (eBlt fAbs (aCons (eOp (fIx false) (eVar 0) (eC (.int 0))) (aNil))))) (sNx))
  (sSeq (sFor (iRange rng1 (aCons (eC (.int 900)) (aNil))) (tgN 4) (sSeq (sSet 3 (eOp fMod (eBlt fInt (aCons (eOp fAdd (eOp fMul (eVar 3) (eC (.int 48271))) (eC (.int 69621))) (aNil))) (eC (.int 2147483647))))
  (sDrop (eMet "list" 1 mAppend (aCons (eOp fDiv (eVar 3) (eC (.int 5))) (aNil))))))
  (sRet (e1 fRev (eVar 1)))))))
noncomputable def fn__law_draws : Fn := toFn 7 [false] bd__law_draws
abbrev s__law_walk : Stmt := topS 26
abbrev N__law_walk : List Str := ["n", "kind", "letters", "found", "letter", "spot", "way"]
theorem sc__law_walk : FnScope N__law_walk ["n", "kind", "letters"] (defScope s__law_walk) := ⟨rfl, rfl, rfl, by decide +kernel, rfl, by decide +kernel, by decide +kernel⟩
noncomputable def bd__law_walk : Sv :=
  sSeq (sSet 3 (eLst (aNil)))
  (sSeq (sPar [5, 6] [eC (.int 0), eC (.int 1)])
  (sSeq (sFor (iRange rng1 (aCons (eVar 2) (aNil))) (tgN 4) (sSeq (sDrop (eMet "list" 3 mAppend (aCons (eVar 5) (aNil))))
  (sIf (eChain fLe fLt (eC (.int 0)) (eOp fAdd (eVar 5) (eVar 6)) (eVar 0)) (sSet 5 (eOp fAdd (eVar 5) (eVar 6))) (sSeq (sSet 6 (eOp fSub (eC (.int 0)) (eVar 6)))
  (sSet 5 (eIf (eOpT fEq (eVar 1) (eC (.str "once"))) (eOp fAdd (eVar 5) (eVar 6)) (eVar 5)))))))
  (sRet (eVar 3))))
noncomputable def fn__law_walk : Fn := toFn 7 [false, false, false] bd__law_walk
abbrev s_is_number : Stmt := topS 8
abbrev N_is_number : List Str := ["value", "least", "most"]
theorem sc_is_number : FnScope N_is_number ["value", "least", "most"] (defScope s_is_number) := ⟨rfl, rfl, rfl, by decide +kernel, rfl, by decide +kernel, by decide +kernel⟩
noncomputable def bd_is_number : Sv :=
  sRet (eAndV (e1 (fIsiV "int") (eVar 0)) (eAndV (eNotV (e1 (fIsiV "bool") (eVar 0))) (eT (eChain fLe fLe (eVar 1) (eVar 0) (eVar 2)))))
noncomputable def fn_is_number : Fn := toFn 3 [false, false, false] bd_is_number
abbrev s_check_ribbon : Stmt := topS 13
abbrev N_check_ribbon : List Str := ["n", "kind"]
theorem sc_check_ribbon : FnScope N_check_ribbon ["n", "kind"] (defScope s_check_ribbon) := ⟨rfl, rfl, rfl, by decide +kernel, rfl, by decide +kernel, by decide +kernel⟩
noncomputable def bd_check_ribbon : Sv :=
  sSeq (sIf (eNot (eB (eCall 3 fn_is_number (aCons (eVar 0) (aCons (eC (.int (2))) (aCons (eC (.int (1000000))) (aNil))))))) (sRaise "OutOfRange") (sNx))
  (sIf (eOpT (fNotIn false) (eVar 1) (eC cd_KINDS)) (sRaise "NotThere") (sNx))
noncomputable def fn_check_ribbon : Fn := toFn 2 [false, false] bd_check_ribbon
abbrev s_round_of_ribbon : Stmt := topS 15
abbrev N_round_of_ribbon : List Str := ["n", "kind"]
theorem sc_round_of_ribbon : FnScope N_round_of_ribbon ["n", "kind"] (defScope s_round_of_ribbon) := ⟨rfl, rfl, rfl, by decide +kernel, rfl, by decide +kernel, by decide +kernel⟩
noncomputable def bd_round_of_ribbon : Sv :=
  sSeq (sDrop (eCall 2 fn_check_ribbon (aCons (eVar 0) (aCons (eVar 1) (aNil)))))
  (sRet (eIf (eOpT fEq (eVar 1) (eC (.str "once"))) (eOp fSub (eOp fMul (eC (.int 2)) (eVar 0)) (eC (.int 2))) (eOp fMul (eC (.int 2)) (eVar 0))))
noncomputable def fn_round_of_ribbon : Fn := toFn 2 [false, false] bd_round_of_ribbon
abbrev s_check_letters : Stmt := topS 14
abbrev N_check_letters : List Str := ["letters", "least"]
theorem sc_check_letters : FnScope N_check_letters ["letters", "least"] (defScope s_check_letters) := ⟨rfl, rfl, rfl, by decide +kernel, rfl, by decide +kernel, by decide +kernel⟩
noncomputable def bd_check_letters : Sv :=
  sIf (eNot (eB (eCall 3 fn_is_number (aCons (eVar 0) (aCons (eVar 1) (aCons (eBlt fMax (aCons (eVar 1) (aCons (eVar 0) (aNil)))) (aNil))))))) (sRaise "OutOfRange") (sNx)
noncomputable def fn_check_letters : Fn := toFn 2 [false, false] bd_check_letters
abbrev s_spot_of : Stmt := topS 16
abbrev N_spot_of : List Str := ["n", "kind", "letter", "size", "rest"]
theorem sc_spot_of : FnScope N_spot_of ["n", "kind", "letter"] (defScope s_spot_of) := ⟨rfl, rfl, rfl, by decide +kernel, rfl, by decide +kernel, by decide +kernel⟩
noncomputable def bd_spot_of : Sv :=
  sSeq (sSet 3 (eCall 2 fn_round_of_ribbon (aCons (eVar 0) (aCons (eVar 1) (aNil)))))
  (sSeq (sDrop (eCall 2 fn_check_letters (aCons (eVar 2) (aCons (eC (.int 0)) (aNil)))))
  (sSeq (sSet 4 (eOp fMod (eVar 2) (eVar 3)))
  (sSeq (sIf (eOpT fLt (eVar 4) (eVar 0)) (sRet (eVar 4)) (sNx))
  (sRet (eIf (eOpT fEq (eVar 1) (eC (.str "once"))) (eOp fSub (eVar 3) (eVar 4)) (eOp fSub (eOp fSub (eVar 3) (eC (.int 1))) (eVar 4)))))))
noncomputable def fn_spot_of : Fn := toFn 5 [false, false, false] bd_spot_of
abbrev s_letters_on : Stmt := topS 17
abbrev N_letters_on : List Str := ["n", "kind", "spot"]
theorem sc_letters_on : FnScope N_letters_on ["n", "kind", "spot"] (defScope s_letters_on) := ⟨rfl, rfl, rfl, by decide +kernel, rfl, by decide +kernel, by decide +kernel⟩
noncomputable def bd_letters_on : Sv :=
  sSeq (sIf (eOpT fEq (eVar 1) (eC (.str "twice"))) (sRet (eLst (aCons (eVar 2) (aCons (eOp fSub (eOp fSub (eOp fMul (eC (.int 2)) (eVar 0)) (eC (.int 1))) (eVar 2)) (aNil))))) (sNx))
  (sRet (eIf (eOpT (fIn false) (eVar 2) (eTup (aCons (eC (.int 0)) (aCons (eOp fSub (eVar 0) (eC (.int 1))) (aNil))))) (eLst (aCons (eVar 2) (aNil))) (eLst (aCons (eVar 2) (aCons (eOp fSub (eOp fSub (eOp fMul (eC (.int 2)) (eVar 0)) (eC (.int 2))) (eVar 2)) (aNil))))))
noncomputable def fn_letters_on : Fn := toFn 3 [false, false, false] bd_letters_on
abbrev s_strikes_on : Stmt := topS 18
abbrev N_strikes_on : List Str := ["n", "kind", "spot", "letters", "size", "found", "first"]
theorem sc_strikes_on : FnScope N_strikes_on ["n", "kind", "spot", "letters"] (defScope s_strikes_on) := ⟨rfl, rfl, rfl, by decide +kernel, rfl, by decide +kernel, by decide +kernel⟩
noncomputable def bd_strikes_on : Sv :=
  sSeq (sSet 4 (eCall 2 fn_round_of_ribbon (aCons (eVar 0) (aCons (eVar 1) (aNil)))))
  (sSeq (sIf (eNot (eB (eCall 3 fn_is_number (aCons (eVar 2) (aCons (eC (.int 0)) (aCons (eOp fSub (eVar 0) (eC (.int 1))) (aNil))))))) (sRaise "NotThere") (sNx))
  (sSeq (sDrop (eCall 2 fn_check_letters (aCons (eVar 3) (aCons (eC (.int 0)) (aNil)))))
  (sSeq (sSet 5 (eC (.int 0)))
  (sSeq (sFor (iSeq (eCall 3 fn_letters_on (aCons (eVar 0) (aCons (eVar 1) (aCons (eVar 2) (aNil)))))) (tgN 6) (sIf (eOpT fGt (eVar 3) (eVar 6)) (sAug 5 fAddI (eOp fAdd (eOp fDiv (eOp fSub (eOp fSub (eVar 3) (eVar 6)) (eC (.int 1))) (eVar 4)) (eC (.int 1)))) (sNx)))
  (sRet (eVar 5))))))
noncomputable def fn_strikes_on : Fn := toFn 7 [false, false, false, false] bd_strikes_on
abbrev s_letters_for : Stmt := topS 19
abbrev N_letters_for : List Str := ["n", "kind", "strikes", "size"]
theorem sc_letters_for : FnScope N_letters_for ["n", "kind", "strikes"] (defScope s_letters_for) := ⟨rfl, rfl, rfl, by decide +kernel, rfl, by decide +kernel, by decide +kernel⟩
noncomputable def bd_letters_for : Sv :=
  sSeq (sSet 3 (eCall 2 fn_round_of_ribbon (aCons (eVar 0) (aCons (eVar 1) (aNil)))))
  (sSeq (sDrop (eCall 2 fn_check_letters (aCons (eVar 2) (aCons (eC (.int 1)) (aNil)))))
  (sRet (eIf (eOpT fEq (eVar 1) (eC (.str "once"))) (eOp fAdd (eOp fMul (eOp fSub (eVar 2) (eC (.int 1))) (eVar 3)) (eVar 0)) (eOp fMul (eVar 2) (eVar 0)))))
noncomputable def fn_letters_for : Fn := toFn 4 [false, false, false] bd_letters_for
abbrev s__law_word : Stmt := topS 24
abbrev N__law_word : List Str := ["e", "kinds", "one"]
theorem sc__law_word : FnScope N__law_word ["e"] (defScope s__law_word) := ⟨rfl, rfl, rfl, by decide +kernel, rfl, by decide +kernel, by decide +kernel⟩
noncomputable def bd__law_word : Sv :=
  sSeq (sSet 1 (eLst (aCons (eIsE kn km isE 0 "OutOfRange") (aCons (eIsE kn km isE 0 "Malformed") (aCons (eIsE kn km isE 0 "NotThere") (aCons (eIsE kn km isE 0 "Refused") (aCons (eIsE kn km isE 0 "TooMuch") (aNil))))))))
  (sSeq (sIf (eOpT fNe (eBlt fLen (aCons (eLc [2] (tgN 2) (eB (eVar 2)) (eVar 2) (iSeqL (eVar 1))) (aNil))) (eC (.int 1))) (sRet (eC (.str "many"))) (sNx))
  (sRet (eOp (fIx false) (eLst (aCons (eC (.str "range")) (aCons (eC (.str "form")) (aCons (eC (.str "none")) (aCons (eC (.str "refused")) (aCons (eC (.str "much")) (aNil))))))) (eMetR "list" mIndex (eVar 1) (aCons (eC (.bool true)) (aNil))))))
noncomputable def fn__law_word : FnE := toFnX 3 bd__law_word
abbrev s__law_told : Stmt := topS 25
abbrev N__law_told : List Str := ["which", "n", "kind", "one", "two", "e"]
theorem sc__law_told : FnScope N__law_told ["which", "n", "kind", "one", "two"] (defScope s__law_told) := ⟨rfl, rfl, rfl, by decide +kernel, rfl, by decide +kernel, by decide +kernel⟩
noncomputable def bd__law_told : Sv :=
  sTry kn km isE "PrintError" 5 (sSeq (sIf (eOpT fEq (eVar 0) (eC (.int 0))) (sRet (eCall 2 fn_round_of_ribbon (aCons (eVar 1) (aCons (eVar 2) (aNil))))) (sNx))
  (sSeq (sIf (eOpT fEq (eVar 0) (eC (.int 1))) (sRet (eCall 3 fn_spot_of (aCons (eVar 1) (aCons (eVar 2) (aCons (eVar 3) (aNil)))))) (sNx))
  (sRet (eIf (eOpT fEq (eVar 0) (eC (.int 2))) (eCall 4 fn_strikes_on (aCons (eVar 1) (aCons (eVar 2) (aCons (eVar 3) (aCons (eVar 4) (aNil)))))) (eCall 3 fn_letters_for (aCons (eVar 1) (aCons (eVar 2) (aCons (eVar 3) (aNil))))))))) (sRet (eCallX 5 fn__law_word))
noncomputable def fn__law_told : Fn := toFn 6 [false, false, false, false, false] bd__law_told
abbrev s__law_take : Stmt := topS 22
abbrev N__law_take : List Str := ["draws", "bound"]
theorem sc__law_take : FnScope N__law_take ["draws", "bound"] (defScope s__law_take) := ⟨rfl, rfl, rfl, by decide +kernel, rfl, by decide +kernel, by decide +kernel⟩
noncomputable def bd__law_take : Sv :=
  sSeq (sIf (eOpT fEq (eBlt fLen (aCons (eVar 0) (aNil))) (eC (.int 0))) (sRet (eC (.int 0))) (sNx))
  (sRet (eOp fMod (eBlt fInt (aCons (eMet "list" 0 mPop aNil) (aNil))) (eVar 1)))
noncomputable def fn__law_take : Fn := toFn 2 [true, false] bd__law_take
abbrev s__law_alike : Stmt := topS 23
abbrev N__law_alike : List Str := ["found", "due", "k"]
theorem sc__law_alike : FnScope N__law_alike ["found", "due"] (defScope s__law_alike) := ⟨rfl, rfl, rfl, by decide +kernel, rfl, by decide +kernel, by decide +kernel⟩
noncomputable def bd__law_alike (rec : Fn) : Sv :=
  sSeq (sIf (eOr (eB (e1 (fIsiV "list") (eVar 1))) (eB (e1 (fIsiV "tuple") (eVar 1)))) (sSeq (sIf (eOr (eOpT fNe (e1 (fIsiV "list") (eVar 0)) (e1 (fIsiV "list") (eVar 1))) (eOpT fNe (e1 (fIsiV "tuple") (eVar 0)) (e1 (fIsiV "tuple") (eVar 1)))) (sRet (eC (.bool false))) (sNx))
  (sRet (eAndV (eOp (boolRes fEq) (eBlt fLen (aCons (eVar 0) (aNil))) (eBlt fLen (aCons (eVar 1) (aNil)))) (eOp (boolRes fEq) (eLc [2] (tgN 2) (eNot (eB (eCall 2 rec (aCons (eOp (fIx false) (eVar 0) (eVar 2)) (aCons (eOp (fIx false) (eVar 1) (eVar 2)) (aNil)))))) (eVar 2) (iRange rng1 (aCons (eBlt fLen (aCons (eVar 1) (aNil))) (aNil)))) (eLst (aNil)))))) (sNx))
  (sSeq (sIf (eOpT fIsN (eVar 1) (eC .none)) (sRet (eOp (boolRes fIsN) (eVar 0) (eC .none))) (sNx))
  (sSeq (sIf (eOr (eB (e1 (fIsiV "bool") (eVar 1))) (eB (e1 (fIsiV "bool") (eVar 0)))) (sRet (eAndV (e1 (fIsiV "bool") (eVar 0)) (eAndV (e1 (fIsiV "bool") (eVar 1)) (eOp (boolRes fEq) (eVar 0) (eVar 1))))) (sNx))
  (sSeq (sIf (eB (e1 (fIsiV "int") (eVar 1))) (sRet (eAndV (e1 (fIsiV "int") (eVar 0)) (eOp (boolRes fEq) (eVar 0) (eVar 1)))) (sNx))
  (sRet (eAndV (e1 (fIsiV "str") (eVar 0)) (eOp (boolRes fEq) (eVar 0) (eVar 1)))))))
noncomputable def fr__law_alike : Nat → Fn
  | 0 => fun _ => .bad
  | n + 1 => toFn 3 [false, false] (bd__law_alike (fr__law_alike n))
noncomputable def fn__law_alike : Fn := fr__law_alike 8
abbrev s_law : Stmt := topS 27
abbrev N_law : List Str := ["script", "draws", "n", "kind", "walk", "size", "great", "turn", "letter", "strikes", "counts", "first", "letters", "whole", "far", "spot", "behind", "least", "words", "none", "due", "rounds", "part", "one", "which"]
theorem sc_law : FnScope N_law ["script"] (defScope s_law) := ⟨rfl, rfl, rfl, by decide +kernel, rfl, by decide +kernel, by decide +kernel⟩
noncomputable def bd_law : Sv :=
  sSeq (sSet 1 (eCall 1 fn__law_draws (aCons (eVar 0) (aNil))))
  (sSeq (sSet 2 (eOp fAdd (eC (.int 2)) (eCallM [true, false] fn__law_take (aCons (eVar 1) (aCons (eOp (fIx false) (eLst (aCons (eC (.int 4)) (aCons (eC (.int 40)) (aNil)))) (eCallM [true, false] fn__law_take (aCons (eVar 1) (aCons (eC (.int 2)) (aNil))))) (aNil))))))
  (sSeq (sSet 3 (eOp (fIx false) (eLst (aCons (eC (.str "once")) (aCons (eC (.str "twice")) (aNil)))) (eCallM [true, false] fn__law_take (aCons (eVar 1) (aCons (eC (.int 2)) (aNil))))))
  (sSeq (sSet 4 (eCall 3 fn__law_walk (aCons (eVar 2) (aCons (eVar 3) (aCons (eOp fMul (eC (.int 10)) (eVar 2)) (aNil))))))
  (sSeq (sSet 5 (eCall 5 fn__law_told (aCons (eC (.int 0)) (aCons (eVar 2) (aCons (eVar 3) (aCons (eC (.int 0)) (aCons (eC (.int 0)) (aNil))))))))
  (sSeq (sIf (eOr (eB (e1 (fIsiV "bool") (eVar 5))) (eOr (eNot (eB (e1 (fIsiV "int") (eVar 5)))) (eOpT fNe (eSl (eVar 4) (pAt (eVar 5)) (pAt (eOp fMul (eC (.int 4)) (eVar 5)))) (eSl (eVar 4) (pNo) (pAt (eOp fMul (eC (.int 3)) (eVar 5))))))) (sRet (eC (.bool false))) (sNx))
  (sSeq (sIf (eOpT fNe (eLc [22] (tgN 22) (eOpT fEq (eSl (eVar 4) (pAt (eVar 22)) (pAt (eOp fAdd (eVar 22) (eVar 5)))) (eSl (eVar 4) (pNo) (pAt (eVar 5)))) (eVar 22) (iRange rng2 (aCons (eC (.int 1)) (aCons (eVar 5) (aNil))))) (eLst (aNil))) (sRet (eC (.bool false))) (sNx))
  (sSeq (sSet 6 (eC (.int 0)))
  (sSeq (sFor (iRange rng1 (aCons (eC (.int 9)) (aNil))) (tgN 7) (sSet 6 (eOp fAdd (eOp fMul (eVar 6) (eC (.int 997))) (eCallM [true, false] fn__law_take (aCons (eVar 1) (aCons (eC (.int 997)) (aNil)))))))
  (sSeq (sFor (iSeq (eLst (aCons (eC (.int 0)) (aCons (eC (.int 1)) (aCons (eOp fSub (eVar 2) (eC (.int 1))) (aCons (eVar 2) (aCons (eCallM [true, false] fn__law_take (aCons (eVar 1) (aCons (eOp fMul (eC (.int 10)) (eVar 2)) (aNil)))) (aCons (eVar 6) (aNil))))))))) (tgN 8) (sSeq (sSet 20 (eIf (eOpT fLt (eVar 8) (eBlt fLen (aCons (eVar 4) (aNil)))) (eOp (fIx false) (eVar 4) (eVar 8)) (eOp (fIx false) (eVar 4) (eOp fMod (eBlt fInt (aCons (eVar 8) (aNil))) (eVar 5)))))
  (sIf (eNot (eB (eCall 2 fn__law_alike (aCons (eCall 5 fn__law_told (aCons (eC (.int 1)) (aCons (eVar 2) (aCons (eVar 3) (aCons (eVar 8) (aCons (eC (.int 0)) (aNil))))))) (aCons (eVar 20) (aNil)))))) (sRet (eC (.bool false))) (sNx))))
  (sSeq (sFor (iRange rng1 (aCons (eC (.int 4)) (aNil))) (tgN 7) (sSeq (sSet 15 (eOp (fIx false) (eLst (aCons (eC (.int 0)) (aCons (eOp fSub (eVar 2) (eC (.int 1))) (aCons (eCallM [true, false] fn__law_take (aCons (eVar 1) (aCons (eVar 2) (aNil)))) (aCons (eCallM [true, false] fn__law_take (aCons (eVar 1) (aCons (eVar 2) (aNil)))) (aNil)))))) (eVar 7)))
  (sFor (iSeq (eLst (aCons (eC (.int 0)) (aCons (eC (.int 1)) (aCons (eCallM [true, false] fn__law_take (aCons (eVar 1) (aCons (eOp fMul (eC (.int 10)) (eVar 2)) (aNil)))) (aCons (eVar 6) (aNil))))))) (tgN 12) (sSeq (sSet 21 (eIf (eOpT fLt (eVar 12) (eBlt fLen (aCons (eVar 4) (aNil)))) (eC (.int 0)) (eOp fDiv (eVar 12) (eVar 5))))
  (sSeq (sSet 20 (eOp fAdd (eBlt fLen (aCons (eLc [23] (tgN 23) (eOpT fEq (eVar 23) (eVar 15)) (eVar 23) (iSeq (eSl (eVar 4) (pNo) (pAt (eOp fSub (eVar 12) (eOp fMul (eVar 21) (eVar 5))))))) (aNil))) (eOp fMul (eVar 21) (eBlt fLen (aCons (eLc [23] (tgN 23) (eOpT fEq (eVar 23) (eVar 15)) (eVar 23) (iSeq (eSl (eVar 4) (pNo) (pAt (eVar 5))))) (aNil))))))
  (sIf (eNot (eB (eCall 2 fn__law_alike (aCons (eCall 5 fn__law_told (aCons (eC (.int 2)) (aCons (eVar 2) (aCons (eVar 3) (aCons (eVar 15) (aCons (eVar 12) (aNil))))))) (aCons (eVar 20) (aNil)))))) (sRet (eC (.bool false))) (sNx)))))))
  (sSeq (sSet 9 (eOp fAdd (eC (.int 1)) (eCallM [true, false] fn__law_take (aCons (eVar 1) (aCons (eC (.int 4)) (aNil))))))
  (sSeq (sSet 10 (eOp fMul (eLst (aCons (eC (.int 0)) (aNil))) (eVar 2)))
  (sSeq (sSet 11 (eC .none))
  (sSeq (sFor (iRange rng1 (aCons (eBlt fLen (aCons (eVar 4) (aNil))) (aNil))) (tgN 8) (sSeq (sPut false 10 (eOp (fIx false) (eVar 4) (eVar 8)) (eOp fAdd (eOp (fIx false) (eVar 10) (eOp (fIx false) (eVar 4) (eVar 8))) (eC (.int 1))))
  (sIf (eAnd (eOpT fIsN (eVar 11) (eC .none)) (eOpT fGe (eBlt fMin (aCons (eVar 10) (aNil))) (eVar 9))) (sSet 11 (eOp fAdd (eVar 8) (eC (.int 1)))) (sNx))))
  (sSeq (sIf (eNot (eB (eCall 2 fn__law_alike (aCons (eCall 5 fn__law_told (aCons (eC (.int 3)) (aCons (eVar 2) (aCons (eVar 3) (aCons (eVar 9) (aCons (eC (.int 0)) (aNil))))))) (aCons (eVar 11) (aNil)))))) (sRet (eC (.bool false))) (sNx))
  (sSeq (sSet 12 (eCallM [true, false] fn__law_take (aCons (eVar 1) (aCons (eOp fMul (eC (.int 10)) (eVar 2)) (aNil)))))
  (sSeq (sSet 10 (eLc [15] (tgN 15) (tTrue) (eCall 5 fn__law_told (aCons (eC (.int 2)) (aCons (eVar 2) (aCons (eVar 3) (aCons (eVar 15) (aCons (eVar 12) (aNil))))))) (iRange rng1 (aCons (eVar 2) (aNil)))))
  (sSeq (sSet 13 (eLc [15] (tgN 15) (tTrue) (eCall 5 fn__law_told (aCons (eC (.int 2)) (aCons (eVar 2) (aCons (eVar 3) (aCons (eVar 15) (aCons (eOp fMul (eVar 5) (eVar 9)) (aNil))))))) (iRange rng1 (aCons (eVar 2) (aNil)))))
  (sSeq (sIf (eAnd (eOpT fEq (eVar 3) (eC (.str "twice"))) (eOr (eOpT fGt (eOp fSub (eBlt fMax (aCons (eVar 10) (aNil))) (eBlt fMin (aCons (eVar 10) (aNil)))) (eC (.int 1))) (eOpT fNe (eVar 13) (eOp fMul (eLst (aCons (eOp fMul (eC (.int 2)) (eVar 9)) (aNil))) (eVar 2))))) (sRet (eC (.bool false))) (sNx))
  (sSeq (sIf (eAnd (eOpT fEq (eVar 3) (eC (.str "once"))) (eOpT fNe (eVar 13) (eOp fAdd (eOp fAdd (eLst (aCons (eVar 9) (aNil))) (eOp fMul (eLst (aCons (eOp fMul (eC (.int 2)) (eVar 9)) (aNil))) (eOp fSub (eVar 2) (eC (.int 2))))) (eLst (aCons (eVar 9) (aNil)))))) (sRet (eC (.bool false))) (sNx))
  (sSeq (sSet 14 (eOp fAdd (eOp fAdd (eC (.int 2)) (eOp fMul (eCallM [true, false] fn__law_take (aCons (eVar 1) (aCons (eC (.int 997)) (aNil)))) (eC (.int 997)))) (eCallM [true, false] fn__law_take (aCons (eVar 1) (aCons (eC (.int 997)) (aNil))))))
  (sSeq (sSet 15 (eCall 5 fn__law_told (aCons (eC (.int 1)) (aCons (eVar 14) (aCons (eVar 3) (aCons (eVar 6) (aCons (eC (.int 0)) (aNil))))))))
  (sSeq (sIf (eOr (eB (e1 (fIsiV "bool") (eVar 15))) (eOr (eNot (eB (e1 (fIsiV "int") (eVar 15)))) (eOr (eNot (eChain fLe fLt (eC (.int 0)) (eVar 15) (eVar 14))) (eOpT fNe (eCall 5 fn__law_told (aCons (eC (.int 2)) (aCons (eVar 14) (aCons (eVar 3) (aCons (eVar 15) (aCons (eOp fAdd (eVar 6) (eC (.int 1))) (aNil))))))) (eOp fAdd (eCall 5 fn__law_told (aCons (eC (.int 2)) (aCons (eVar 14) (aCons (eVar 3) (aCons (eVar 15) (aCons (eVar 6) (aNil))))))) (eC (.int 1))))))) (sRet (eC (.bool false))) (sNx))
  (sSeq (sSet 16 (eCall 5 fn__law_told (aCons (eC (.int 3)) (aCons (eVar 14) (aCons (eVar 3) (aCons (eOp fAdd (eC (.int 1)) (eVar 6)) (aCons (eC (.int 0)) (aNil))))))))
  (sSeq (sSet 17 (eBlt fMin (aCons (eLc [23] (tgN 23) (tTrue) (eCall 5 fn__law_told (aCons (eC (.int 2)) (aCons (eVar 14) (aCons (eVar 3) (aCons (eVar 23) (aCons (eVar 16) (aNil))))))) (iSeq (eLst (aCons (eC (.int 0)) (aCons (eC (.int 1)) (aCons (eOp fDiv (eVar 14) (eC (.int 2))) (aCons (eOp fSub (eVar 14) (eC (.int 2))) (aCons (eOp fSub (eVar 14) (eC (.int 1))) (aNil))))))))) (aNil))))
  (sSeq (sIf (eOr (eOpT fNe (eVar 17) (eOp fAdd (eC (.int 1)) (eVar 6))) (eOpT fGe (eBlt fMin (aCons (eLc [23] (tgN 23) (tTrue) (eCall 5 fn__law_told (aCons (eC (.int 2)) (aCons (eVar 14) (aCons (eVar 3) (aCons (eVar 23) (aCons (eOp fSub (eVar 16) (eC (.int 1))) (aNil))))))) (iSeq (eLst (aCons (eC (.int 0)) (aCons (eOp fSub (eVar 14) (eC (.int 1))) (aNil)))))) (aNil))) (eOp fAdd (eC (.int 1)) (eVar 6)))) (sRet (eC (.bool false))) (sNx))
  (sSeq (sSet 18 (eLc [24, 23] (tgT [tgN 24, tgN 23]) (tTrue) (eCall 5 fn__law_told (aCons (eVar 24) (aCons (eVar 23) (aCons (eVar 3) (aCons (eC (.int 1)) (aCons (eC (.int 1)) (aNil))))))) (iSeq (eLst (aCons (eTup (aCons (eC (.int 0)) (aCons (eC (.int 1)) (aNil)))) (aCons (eTup (aCons (eC (.int 0)) (aCons (eOp fAdd (eOp fPow (eC (.int 10)) (eC (.int 6))) (eC (.int 1))) (aNil)))) (aCons (eTup (aCons (eC (.int 1)) (aCons (eC (.int 1)) (aNil)))) (aCons (eTup (aCons (eC (.int 2)) (aCons (eC (.int 1)) (aNil)))) (aCons (eTup (aCons (eC (.int 3)) (aCons (eC (.int 1)) (aNil)))) (aCons (eTup (aCons (eC (.int 3)) (aCons (eOp fAdd (eOp fPow (eC (.int 10)) (eC (.int 6))) (eC (.int 1))) (aNil)))) (aNil)))))))))))
  (sSeq (sSet 18 (eOp fAdd (eVar 18) (eLst (aCons (eCall 5 fn__law_told (aCons (eC (.int 1)) (aCons (eVar 2) (aCons (eVar 3) (aCons (e1 fNeg (eC (.int 1))) (aCons (eC (.int 0)) (aNil))))))) (aCons (eCall 5 fn__law_told (aCons (eC (.int 2)) (aCons (eVar 2) (aCons (eVar 3) (aCons (eC (.int 0)) (aCons (e1 fNeg (eC (.int 1))) (aNil))))))) (aCons (eCall 5 fn__law_told (aCons (eC (.int 3)) (aCons (eVar 2) (aCons (eVar 3) (aCons (eC (.int 0)) (aCons (eC (.int 0)) (aNil))))))) (aNil)))))))
  (sSeq (sSet 19 (eOp fAdd (eLc [24, 23] (tgT [tgN 24, tgN 23]) (tTrue) (eCall 5 fn__law_told (aCons (eVar 24) (aCons (eVar 2) (aCons (eVar 23) (aCons (eC (.int 1)) (aCons (eC (.int 1)) (aNil))))))) (iSeq (eLst (aCons (eTup (aCons (eC (.int 0)) (aCons (eC (.str "thrice")) (aNil)))) (aCons (eTup (aCons (eC (.int 1)) (aCons (eC (.str "")) (aNil)))) (aCons (eTup (aCons (eC (.int 2)) (aCons (eC (.str "Once")) (aNil)))) (aCons (eTup (aCons (eC (.int 3)) (aCons (eC (.str "twice ")) (aNil)))) (aNil)))))))) (eLc [23] (tgN 23) (tTrue) (eCall 5 fn__law_told (aCons (eC (.int 2)) (aCons (eVar 2) (aCons (eVar 3) (aCons (eVar 23) (aCons (e1 fNeg (eC (.int 1))) (aNil))))))) (iSeq (eLst (aCons (e1 fNeg (eC (.int 1))) (aCons (eVar 2) (aNil))))))))
  (sRet (eAndV (eOp (boolRes fEq) (eVar 18) (eOp fMul (eLst (aCons (eC (.str "range")) (aNil))) (eC (.int 9)))) (eOp (boolRes fEq) (eVar 19) (eOp fMul (eLst (aCons (eC (.str "none")) (aNil))) (eC (.int 6)))))))))))))))))))))))))))))))))))
noncomputable def fn_law : Fn := toFn 25 [false] bd_law
structure Txt (K : PySem.W.Frag) (mg : Str → Option Value) (ad : Nat → Addr) (fd : Nat → FuncData) (ec : String → Addr) : Prop where
  F__law_draws : Fun K "_law_draws" "_law_draws" s__law_draws (ad 0) (fd 0)
  g__law_draws : mg "_law_draws" = some (.ref (ad 0))
  b__law_draws : Binds K (fd 0) ["script"] []
  F__law_walk : Fun K "_law_walk" "_law_walk" s__law_walk (ad 1) (fd 1)
  g__law_walk : mg "_law_walk" = some (.ref (ad 1))
  b__law_walk : Binds K (fd 1) ["n", "kind", "letters"] []
  F_is_number : Fun K "is_number" "is_number" s_is_number (ad 2) (fd 2)
  g_is_number : mg "is_number" = some (.ref (ad 2))
  b_is_number : Binds K (fd 2) ["value", "least", "most"] []
  F_check_ribbon : Fun K "check_ribbon" "check_ribbon" s_check_ribbon (ad 3) (fd 3)
  g_check_ribbon : mg "check_ribbon" = some (.ref (ad 3))
  b_check_ribbon : Binds K (fd 3) ["n", "kind"] []
  F_round_of_ribbon : Fun K "round_of_ribbon" "round_of_ribbon" s_round_of_ribbon (ad 4) (fd 4)
  g_round_of_ribbon : mg "round_of_ribbon" = some (.ref (ad 4))
  b_round_of_ribbon : Binds K (fd 4) ["n", "kind"] []
  F_check_letters : Fun K "check_letters" "check_letters" s_check_letters (ad 5) (fd 5)
  g_check_letters : mg "check_letters" = some (.ref (ad 5))
  b_check_letters : Binds K (fd 5) ["letters", "least"] []
  F_spot_of : Fun K "spot_of" "spot_of" s_spot_of (ad 6) (fd 6)
  g_spot_of : mg "spot_of" = some (.ref (ad 6))
  b_spot_of : Binds K (fd 6) ["n", "kind", "letter"] []
  F_letters_on : Fun K "letters_on" "letters_on" s_letters_on (ad 7) (fd 7)
  g_letters_on : mg "letters_on" = some (.ref (ad 7))
  b_letters_on : Binds K (fd 7) ["n", "kind", "spot"] []
  F_strikes_on : Fun K "strikes_on" "strikes_on" s_strikes_on (ad 8) (fd 8)
  g_strikes_on : mg "strikes_on" = some (.ref (ad 8))
  b_strikes_on : Binds K (fd 8) ["n", "kind", "spot", "letters"] []
  F_letters_for : Fun K "letters_for" "letters_for" s_letters_for (ad 9) (fd 9)
  g_letters_for : mg "letters_for" = some (.ref (ad 9))
  b_letters_for : Binds K (fd 9) ["n", "kind", "strikes"] []
  F__law_word : Fun K "_law_word" "_law_word" s__law_word (ad 10) (fd 10)
  g__law_word : mg "_law_word" = some (.ref (ad 10))
  b__law_word : Binds K (fd 10) ["e"] []
  F__law_told : Fun K "_law_told" "_law_told" s__law_told (ad 11) (fd 11)
  g__law_told : mg "_law_told" = some (.ref (ad 11))
  b__law_told : Binds K (fd 11) ["which", "n", "kind", "one", "two"] []
  F__law_take : Fun K "_law_take" "_law_take" s__law_take (ad 12) (fd 12)
  g__law_take : mg "_law_take" = some (.ref (ad 12))
  b__law_take : Binds K (fd 12) ["draws", "bound"] []
  F__law_alike : Fun K "_law_alike" "_law_alike" s__law_alike (ad 13) (fd 13)
  g__law_alike : mg "_law_alike" = some (.ref (ad 13))
  b__law_alike : Binds K (fd 13) ["found", "due"] []
  F_law : Fun K "law" "law" s_law (ad 14) (fd 14)
  g_law : mg "law" = some (.ref (ad 14))
  b_law : Binds K (fd 14) ["script"] []
  n_abs : mg "abs" = none
  n_bool : mg "bool" = none
  n_int : mg "int" = none
  n_isinstance : mg "isinstance" = none
  n_len : mg "len" = none
  n_list : mg "list" = none
  n_max : mg "max" = none
  n_min : mg "min" = none
  n_range : mg "range" = none
  n_reversed : mg "reversed" = none
  n_str : mg "str" = none
  n_tuple : mg "tuple" = none
  c_FEWEST_SPOTS : ∃ t, mg "FEWEST_SPOTS" = some (.int (2) t)
  c_KINDS : ∃ a, mg "KINDS" = some (.ref a) ∧ ∀ F, Rep ⟨K, true⟩ F cd_KINDS (.ref a)
  c_MOST_SPOTS : ∃ t, mg "MOST_SPOTS" = some (.int (1000000) t)
  errs : Errs K ec kn km isE
  x_PrintError : mg "PrintError" = some (.ref (ec "PrintError"))
  xk_PrintError : PySem.W.keepIn K (.ref (ec "PrintError")) = true
  xe_PrintError : PySem.W.excIn K (ec "PrintError") [.type "ValueError", .type "Exception", .type "BaseException", .type "object"] "ValueError.__new__" = true
  xs_PrintError : PySem.W.subIn K (.ref (ec "PrintError")) (.type "BaseException") = some true
  xt_PrintError : PySem.W.typeIn K (.ref (ec "PrintError")) = some (.type "type")
  x_OutOfRange : mg "OutOfRange" = some (.ref (ec "OutOfRange"))
  xk_OutOfRange : PySem.W.keepIn K (.ref (ec "OutOfRange")) = true
  xe_OutOfRange : PySem.W.excIn K (ec "OutOfRange") [.type "ValueError", .type "Exception", .type "BaseException", .type "object"] "ValueError.__new__" = true
  xs_OutOfRange : PySem.W.subIn K (.ref (ec "OutOfRange")) (.type "BaseException") = some true
  xt_OutOfRange : PySem.W.typeIn K (.ref (ec "OutOfRange")) = some (.type "type")
  x_Malformed : mg "Malformed" = some (.ref (ec "Malformed"))
  xk_Malformed : PySem.W.keepIn K (.ref (ec "Malformed")) = true
  xe_Malformed : PySem.W.excIn K (ec "Malformed") [.type "ValueError", .type "Exception", .type "BaseException", .type "object"] "ValueError.__new__" = true
  xs_Malformed : PySem.W.subIn K (.ref (ec "Malformed")) (.type "BaseException") = some true
  xt_Malformed : PySem.W.typeIn K (.ref (ec "Malformed")) = some (.type "type")
  x_NotThere : mg "NotThere" = some (.ref (ec "NotThere"))
  xk_NotThere : PySem.W.keepIn K (.ref (ec "NotThere")) = true
  xe_NotThere : PySem.W.excIn K (ec "NotThere") [.type "ValueError", .type "Exception", .type "BaseException", .type "object"] "ValueError.__new__" = true
  xs_NotThere : PySem.W.subIn K (.ref (ec "NotThere")) (.type "BaseException") = some true
  xt_NotThere : PySem.W.typeIn K (.ref (ec "NotThere")) = some (.type "type")
  x_Refused : mg "Refused" = some (.ref (ec "Refused"))
  xk_Refused : PySem.W.keepIn K (.ref (ec "Refused")) = true
  xe_Refused : PySem.W.excIn K (ec "Refused") [.type "ValueError", .type "Exception", .type "BaseException", .type "object"] "ValueError.__new__" = true
  xs_Refused : PySem.W.subIn K (.ref (ec "Refused")) (.type "BaseException") = some true
  xt_Refused : PySem.W.typeIn K (.ref (ec "Refused")) = some (.type "type")
  x_TooMuch : mg "TooMuch" = some (.ref (ec "TooMuch"))
  xk_TooMuch : PySem.W.keepIn K (.ref (ec "TooMuch")) = true
  xe_TooMuch : PySem.W.excIn K (ec "TooMuch") [.type "ValueError", .type "Exception", .type "BaseException", .type "object"] "ValueError.__new__" = true
  xs_TooMuch : PySem.W.subIn K (.ref (ec "TooMuch")) (.type "BaseException") = some true
  xt_TooMuch : PySem.W.typeIn K (.ref (ec "TooMuch")) = some (.type "type")
section
variable {P : Program} {w : World} {K : PySem.W.Frag} {mg : Str → Option Value} {base : Heap} {ad : Nat → Addr} {fd : Nat → FuncData} {ec : String → Addr}
theorem ok__law_draws (T : Txt K mg ad fd ec)  : FnOk P w K mg base (L2N.CX P w) 1 (ad 0) (fd 0) ["script"] (spD ⟨K, true⟩ ec [false] fn__law_draws) := by
  exact fnF T.F__law_draws sc__law_draws rfl (by decide) fun cdv A outer s H E H0 F0 io hx hn hr tk hp => show PSsD _ _ _ _ bd__law_draws from
    s_cons (s_set (i := 1) sc__law_draws.nd rfl (.inl rfl) (d_lst (a_nil)))
    (s_cons (s_for hp rfl (i_seq rfl (d_var (pv 0))) (g_name (i := 2) sc__law_draws.nd rfl (.inl rfl)) (s_cons (s_set (i := 5) sc__law_draws.nd rfl (.inl rfl) (d_blt call_abs D_abs (by rfl) T.n_abs (by decide +kernel) (a_cons (d_var (pv 2)) (a_nil))))
    (s_cons (s_if (d_cmpT o_lt D_lt (d_var (pv 5)) (d_op op_pow D_pow (d_int) (d_int)) (nomark _)) (s_cons (s_set (i := 6) sc__law_draws.nd rfl (.inl rfl) (d_op o_mod D_mod (d_bltT call_int1 D_int (by rfl) T.n_int PyProof.Rows.boot_int (a_cons (d_op o_add D_add (d_op o_mul D_mul (d_var (pv 5)) (d_int)) (d_int)) (a_nil))) (d_int)))
    (s_cons (s_drop (d_met PySem.F.plainAttrs_list PySem.F.slot_list_append PySem.F.type_list_append mt_append M_append (pv 1) (a_cons (d_op o_mod D_mod (d_bltT call_int1 D_int (by rfl) T.n_int PyProof.Rows.boot_int (a_cons (d_op o_add D_add (d_op o_mul D_mul (d_var (pv 6)) (d_int)) (d_var (pv 5))) (a_nil))) (d_int)) (a_nil))))
    (s_cons (s_drop (d_met PySem.F.plainAttrs_list PySem.F.slot_list_append PySem.F.type_list_append mt_append M_append (pv 1) (a_cons (d_op o_mod D_mod (d_bltT call_int1 D_int (by rfl) T.n_int PyProof.Rows.boot_int (a_cons (d_op o_add D_add (d_var (pv 6)) (d_op o_div D_div (d_var (pv 5)) (d_int))) (a_nil))) (d_int)) (a_nil))))
    (s_one (s_set (i := 5) sc__law_draws.nd rfl (.inl rfl) (d_int)))))) (s_nil))
    (s_one (s_for hp rfl (i_range1 (by rfl) T.n_range (a_cons (d_int) (a_nil))) (g_name (i := 4) sc__law_draws.nd rfl (.inl rfl)) (s_one (s_if (d_cmpT o_gt D_gt (d_var (pv 5)) (d_int) (nomark _)) (s_cons (s_drop (d_met PySem.F.plainAttrs_list PySem.F.slot_list_append PySem.F.type_list_append mt_append M_append (pv 1) (a_cons (d_op o_mod D_mod (d_bltT call_int1 D_int (by rfl) T.n_int PyProof.Rows.boot_int (a_cons (d_var (pv 5)) (a_nil))) (d_int)) (a_nil))))
    (s_one (s_set (i := 5) sc__law_draws.nd rfl (.inl rfl) (d_op o_div D_div (d_var (pv 5)) (d_int))))) (s_nil))))))))
    (s_cons (s_set (i := 3) sc__law_draws.nd rfl (.inl rfl) (d_int))
    (s_cons (s_if (d_cmpT o_gt D_gt (d_blt c_len D_len (by rfl) T.n_len PySem.boot_len (a_cons (d_var (pv 0)) (a_nil))) (d_int) (nomark _)) (s_one (s_set (i := 3) sc__law_draws.nd rfl (.inl rfl) (d_op o_add D_add (d_int) (d_blt call_abs D_abs (by rfl) T.n_abs (by decide +kernel) (a_cons (d_ix rfl (fun z => nomatch z) hr.units (d_var (pv 0)) (d_int) (fun _ _ => rfl)) (a_nil)))))) (s_nil))
    (s_cons (s_for hp rfl (i_range1 (by rfl) T.n_range (a_cons (d_int) (a_nil))) (g_name (i := 4) sc__law_draws.nd rfl (.inl rfl)) (s_cons (s_set (i := 3) sc__law_draws.nd rfl (.inl rfl) (d_op o_mod D_mod (d_bltT call_int1 D_int (by rfl) T.n_int PyProof.Rows.boot_int (a_cons (d_op o_add D_add (d_op o_mul D_mul (d_var (pv 3)) (d_int)) (d_int)) (a_nil))) (d_int)))
    (s_one (s_drop (d_met PySem.F.plainAttrs_list PySem.F.slot_list_append PySem.F.type_list_append mt_append M_append (pv 1) (a_cons (d_op o_div D_div (d_var (pv 3)) (d_int)) (a_nil)))))))
    (s_one (s_ret (d_listRev rfl (by rfl) T.n_list (by rfl) T.n_reversed (d_var (pv 1)))))))))
theorem ok__law_walk (T : Txt K mg ad fd ec)  : FnOk P w K mg base (L2N.CX P w) 1 (ad 1) (fd 1) ["n", "kind", "letters"] (spD ⟨K, true⟩ ec [false, false, false] fn__law_walk) := by
  exact fnF T.F__law_walk sc__law_walk rfl (by decide) fun cdv A outer s H E H0 F0 io hx hn hr tk hp => show PSsD _ _ _ _ bd__law_walk from
    s_cons (s_set (i := 3) sc__law_walk.nd rfl (.inl rfl) (d_lst (a_nil)))
    (s_cons (s_parC (is := [5, 6]) rfl (gn_cons (i := 5) sc__law_walk.nd rfl (.inl rfl) (gn_cons (i := 6) sc__law_walk.nd rfl (.inl rfl) (gn_nil))) (aw_cons (fun _ _ => d_int) (aw_cons (fun _ _ => d_int) (aw_nil))) rfl (by decide) rfl rfl rfl)
    (s_cons (s_for hp rfl (i_range1 (by rfl) T.n_range (a_cons (d_var (pv 2)) (a_nil))) (g_name (i := 4) sc__law_walk.nd rfl (.inl rfl)) (s_cons (s_drop (d_met PySem.F.plainAttrs_list PySem.F.slot_list_append PySem.F.type_list_append mt_append M_append (pv 3) (a_cons (d_var (pv 5)) (a_nil))))
    (s_one (s_if (t_chain o_le o_lt D_le D_lt (d_int) (d_op o_add D_add (d_var (pv 5)) (d_var (pv 6))) (d_var (pv 0)) (by rfl)) (s_one (s_set (i := 5) sc__law_walk.nd rfl (.inl rfl) (d_op o_add D_add (d_var (pv 5)) (d_var (pv 6))))) (s_cons (s_set (i := 6) sc__law_walk.nd rfl (.inl rfl) (d_op op_sub D_sub (d_int) (d_var (pv 6))))
    (s_one (s_set (i := 5) sc__law_walk.nd rfl (.inl rfl) (d_if (d_cmpT (op_eqP hr.units) D_eq (d_var (pv 1)) (d_str) (nomark _)) (d_op o_add D_add (d_var (pv 5)) (d_var (pv 6))) (d_var (pv 5))))))))))
    (s_one (s_ret (d_var (pv 3))))))
theorem ok_is_number (T : Txt K mg ad fd ec)  : FnOk P w K mg base (L2N.CX P w) 1 (ad 2) (fd 2) ["value", "least", "most"] (spD ⟨K, true⟩ ec [false, false, false] fn_is_number) := by
  exact fnF T.F_is_number sc_is_number rfl (by decide) fun cdv A outer s H E H0 F0 io hx hn hr tk hp => show PSsD _ _ _ _ bd_is_number from
    s_one (s_ret (d_and (d_isi (T := "int") rfl (by decide) (by rfl) T.n_isinstance (by rfl) T.n_int PyProof.Rows.boot_int (d_var (pv 0))) (d_and (d_not (d_isi (T := "bool") rfl (by decide) (by rfl) T.n_isinstance (by rfl) T.n_bool PyProof.Rows.boot_bool (d_var (pv 0)))) (d_one (d_chain o_le o_le D_le D_le (d_var (pv 1)) (d_var (pv 0)) (d_var (pv 2)) (by rfl))))))
theorem ok_check_ribbon (T : Txt K mg ad fd ec) (G_is_number : FnOk P w K mg base (L2N.CX P w) 1 (ad 2) (fd 2) ["value", "least", "most"] (spD ⟨K, true⟩ ec [false, false, false] fn_is_number)) : FnOk P w K mg base (L2N.CX P w) 2 (ad 3) (fd 3) ["n", "kind"] (spD ⟨K, true⟩ ec [false, false] fn_check_ribbon) := by
  obtain ⟨t_FEWEST_SPOTS, c_FEWEST_SPOTS⟩ := T.c_FEWEST_SPOTS
  obtain ⟨t_MOST_SPOTS, c_MOST_SPOTS⟩ := T.c_MOST_SPOTS
  obtain ⟨t_KINDS, c_KINDS, r_KINDS⟩ := T.c_KINDS
  exact fnF T.F_check_ribbon sc_check_ribbon rfl (by decide) fun cdv A outer s H E H0 F0 io hx hn hr tk hp => show PSsD _ _ _ _ bd_check_ribbon from
    s_cons (s_if (t_not (d_val (d_call (n := 3) (G_is_number.mono (by decide)) hr (by rfl) T.g_is_number T.F_is_number.kp T.b_is_number tk (a_cons (d_var (pv 0)) (a_cons (d_glob (v := .int (2)) (by rfl) c_FEWEST_SPOTS ⟨_, rfl⟩ (fun _ => .int _)) (a_cons (d_glob (v := .int (1000000)) (by rfl) c_MOST_SPOTS ⟨_, rfl⟩ (fun _ => .int _)) (a_nil))))))) (s_one (s_raise (n := "OutOfRange") rfl rfl tk PySem.F.excBase_ValueError T.xe_OutOfRange T.x_OutOfRange T.xk_OutOfRange (raises_own T.xs_OutOfRange T.xt_OutOfRange) (by rfl))) (s_nil))
    (s_one (s_if (d_cmpT (o_notIn hr.units) (D_notIn (fun z => nomatch z)) (d_var (pv 1)) (d_glob (v := .ref t_KINDS) (by rfl) c_KINDS rfl r_KINDS) (by rfl)) (s_one (s_raise (n := "NotThere") rfl rfl tk PySem.F.excBase_ValueError T.xe_NotThere T.x_NotThere T.xk_NotThere (raises_own T.xs_NotThere T.xt_NotThere) (by rfl))) (s_nil)))
theorem ok_round_of_ribbon (T : Txt K mg ad fd ec) (G_check_ribbon : FnOk P w K mg base (L2N.CX P w) 2 (ad 3) (fd 3) ["n", "kind"] (spD ⟨K, true⟩ ec [false, false] fn_check_ribbon)) : FnOk P w K mg base (L2N.CX P w) 3 (ad 4) (fd 4) ["n", "kind"] (spD ⟨K, true⟩ ec [false, false] fn_round_of_ribbon) := by
  exact fnF T.F_round_of_ribbon sc_round_of_ribbon rfl (by decide) fun cdv A outer s H E H0 F0 io hx hn hr tk hp => show PSsD _ _ _ _ bd_round_of_ribbon from
    s_cons (s_drop (d_call (n := 2) (G_check_ribbon.mono (by decide)) hr (by rfl) T.g_check_ribbon T.F_check_ribbon.kp T.b_check_ribbon tk (a_cons (d_var (pv 0)) (a_cons (d_var (pv 1)) (a_nil)))))
    (s_one (s_ret (d_if (d_cmpT (op_eqP hr.units) D_eq (d_var (pv 1)) (d_str) (nomark _)) (d_op op_sub D_sub (d_op o_mul D_mul (d_int) (d_var (pv 0))) (d_int)) (d_op o_mul D_mul (d_int) (d_var (pv 0))))))
theorem ok_check_letters (T : Txt K mg ad fd ec) (G_is_number : FnOk P w K mg base (L2N.CX P w) 1 (ad 2) (fd 2) ["value", "least", "most"] (spD ⟨K, true⟩ ec [false, false, false] fn_is_number)) : FnOk P w K mg base (L2N.CX P w) 2 (ad 5) (fd 5) ["letters", "least"] (spD ⟨K, true⟩ ec [false, false] fn_check_letters) := by
  exact fnF T.F_check_letters sc_check_letters rfl (by decide) fun cdv A outer s H E H0 F0 io hx hn hr tk hp => show PSsD _ _ _ _ bd_check_letters from
    s_one (s_if (t_not (d_val (d_call (n := 3) (G_is_number.mono (by decide)) hr (by rfl) T.g_is_number T.F_is_number.kp T.b_is_number tk (a_cons (d_var (pv 0)) (a_cons (d_var (pv 1)) (a_cons (d_blt (c_max rfl) D_max (by rfl) T.n_max PyProof.Rows.boot_max (a_cons (d_var (pv 1)) (a_cons (d_var (pv 0)) (a_nil)))) (a_nil))))))) (s_one (s_raise (n := "OutOfRange") rfl rfl tk PySem.F.excBase_ValueError T.xe_OutOfRange T.x_OutOfRange T.xk_OutOfRange (raises_own T.xs_OutOfRange T.xt_OutOfRange) (by rfl))) (s_nil))
theorem ok_spot_of (T : Txt K mg ad fd ec) (G_round_of_ribbon : FnOk P w K mg base (L2N.CX P w) 3 (ad 4) (fd 4) ["n", "kind"] (spD ⟨K, true⟩ ec [false, false] fn_round_of_ribbon)) (G_check_letters : FnOk P w K mg base (L2N.CX P w) 2 (ad 5) (fd 5) ["letters", "least"] (spD ⟨K, true⟩ ec [false, false] fn_check_letters)) : FnOk P w K mg base (L2N.CX P w) 4 (ad 6) (fd 6) ["n", "kind", "letter"] (spD ⟨K, true⟩ ec [false, false, false] fn_spot_of) := by
  exact fnF T.F_spot_of sc_spot_of rfl (by decide) fun cdv A outer s H E H0 F0 io hx hn hr tk hp => show PSsD _ _ _ _ bd_spot_of from
    s_cons (s_set (i := 3) sc_spot_of.nd rfl (.inl rfl) (d_call (n := 2) (G_round_of_ribbon.mono (by decide)) hr (by rfl) T.g_round_of_ribbon T.F_round_of_ribbon.kp T.b_round_of_ribbon tk (a_cons (d_var (pv 0)) (a_cons (d_var (pv 1)) (a_nil)))))
    (s_cons (s_drop (d_call (n := 2) (G_check_letters.mono (by decide)) hr (by rfl) T.g_check_letters T.F_check_letters.kp T.b_check_letters tk (a_cons (d_var (pv 2)) (a_cons (d_int) (a_nil)))))
    (s_cons (s_set (i := 4) sc_spot_of.nd rfl (.inl rfl) (d_op o_mod D_mod (d_var (pv 2)) (d_var (pv 3))))
    (s_cons (s_if (d_cmpT o_lt D_lt (d_var (pv 4)) (d_var (pv 0)) (nomark _)) (s_one (s_ret (d_var (pv 4)))) (s_nil))
    (s_one (s_ret (d_if (d_cmpT (op_eqP hr.units) D_eq (d_var (pv 1)) (d_str) (nomark _)) (d_op op_sub D_sub (d_var (pv 3)) (d_var (pv 4))) (d_op op_sub D_sub (d_op op_sub D_sub (d_var (pv 3)) (d_int)) (d_var (pv 4)))))))))
theorem ok_letters_on (T : Txt K mg ad fd ec)  : FnOk P w K mg base (L2N.CX P w) 1 (ad 7) (fd 7) ["n", "kind", "spot"] (spD ⟨K, true⟩ ec [false, false, false] fn_letters_on) := by
  exact fnF T.F_letters_on sc_letters_on rfl (by decide) fun cdv A outer s H E H0 F0 io hx hn hr tk hp => show PSsD _ _ _ _ bd_letters_on from
    s_cons (s_if (d_cmpT (op_eqP hr.units) D_eq (d_var (pv 1)) (d_str) (nomark _)) (s_one (s_ret (d_lst (a_cons (d_var (pv 2)) (a_cons (d_op op_sub D_sub (d_op op_sub D_sub (d_op o_mul D_mul (d_int) (d_var (pv 0))) (d_int)) (d_var (pv 2))) (a_nil)))))) (s_nil))
    (s_one (s_ret (d_if (d_cmpT (o_in hr.units) (D_in (fun z => nomatch z)) (d_var (pv 2)) (d_tup (a_cons (d_int) (a_cons (d_op op_sub D_sub (d_var (pv 0)) (d_int)) (a_nil)))) (by rfl)) (d_lst (a_cons (d_var (pv 2)) (a_nil))) (d_lst (a_cons (d_var (pv 2)) (a_cons (d_op op_sub D_sub (d_op op_sub D_sub (d_op o_mul D_mul (d_int) (d_var (pv 0))) (d_int)) (d_var (pv 2))) (a_nil)))))))
theorem ok_strikes_on (T : Txt K mg ad fd ec) (G_round_of_ribbon : FnOk P w K mg base (L2N.CX P w) 3 (ad 4) (fd 4) ["n", "kind"] (spD ⟨K, true⟩ ec [false, false] fn_round_of_ribbon)) (G_is_number : FnOk P w K mg base (L2N.CX P w) 1 (ad 2) (fd 2) ["value", "least", "most"] (spD ⟨K, true⟩ ec [false, false, false] fn_is_number)) (G_check_letters : FnOk P w K mg base (L2N.CX P w) 2 (ad 5) (fd 5) ["letters", "least"] (spD ⟨K, true⟩ ec [false, false] fn_check_letters)) (G_letters_on : FnOk P w K mg base (L2N.CX P w) 1 (ad 7) (fd 7) ["n", "kind", "spot"] (spD ⟨K, true⟩ ec [false, false, false] fn_letters_on)) : FnOk P w K mg base (L2N.CX P w) 4 (ad 8) (fd 8) ["n", "kind", "spot", "letters"] (spD ⟨K, true⟩ ec [false, false, false, false] fn_strikes_on) := by
  exact fnF T.F_strikes_on sc_strikes_on rfl (by decide) fun cdv A outer s H E H0 F0 io hx hn hr tk hp => show PSsD _ _ _ _ bd_strikes_on from
    s_cons (s_set (i := 4) sc_strikes_on.nd rfl (.inl rfl) (d_call (n := 2) (G_round_of_ribbon.mono (by decide)) hr (by rfl) T.g_round_of_ribbon T.F_round_of_ribbon.kp T.b_round_of_ribbon tk (a_cons (d_var (pv 0)) (a_cons (d_var (pv 1)) (a_nil)))))
    (s_cons (s_if (t_not (d_val (d_call (n := 3) (G_is_number.mono (by decide)) hr (by rfl) T.g_is_number T.F_is_number.kp T.b_is_number tk (a_cons (d_var (pv 2)) (a_cons (d_int) (a_cons (d_op op_sub D_sub (d_var (pv 0)) (d_int)) (a_nil))))))) (s_one (s_raise (n := "NotThere") rfl rfl tk PySem.F.excBase_ValueError T.xe_NotThere T.x_NotThere T.xk_NotThere (raises_own T.xs_NotThere T.xt_NotThere) (by rfl))) (s_nil))
    (s_cons (s_drop (d_call (n := 2) (G_check_letters.mono (by decide)) hr (by rfl) T.g_check_letters T.F_check_letters.kp T.b_check_letters tk (a_cons (d_var (pv 3)) (a_cons (d_int) (a_nil)))))
    (s_cons (s_set (i := 5) sc_strikes_on.nd rfl (.inl rfl) (d_int))
    (s_cons (s_for hp rfl (i_seq rfl (d_call (n := 3) (G_letters_on.mono (by decide)) hr (by rfl) T.g_letters_on T.F_letters_on.kp T.b_letters_on tk (a_cons (d_var (pv 0)) (a_cons (d_var (pv 1)) (a_cons (d_var (pv 2)) (a_nil)))))) (g_name (i := 6) sc_strikes_on.nd rfl (.inl rfl)) (s_one (s_if (d_cmpT o_gt D_gt (d_var (pv 3)) (d_var (pv 6)) (nomark _)) (s_one (s_aug (i := 5) iop_add D_addI sc_strikes_on.nd rfl (.inl rfl) (d_op o_add D_add (d_op o_div D_div (d_op op_sub D_sub (d_op op_sub D_sub (d_var (pv 3)) (d_var (pv 6))) (d_int)) (d_var (pv 4))) (d_int)))) (s_nil))))
    (s_one (s_ret (d_var (pv 5))))))))
theorem ok_letters_for (T : Txt K mg ad fd ec) (G_round_of_ribbon : FnOk P w K mg base (L2N.CX P w) 3 (ad 4) (fd 4) ["n", "kind"] (spD ⟨K, true⟩ ec [false, false] fn_round_of_ribbon)) (G_check_letters : FnOk P w K mg base (L2N.CX P w) 2 (ad 5) (fd 5) ["letters", "least"] (spD ⟨K, true⟩ ec [false, false] fn_check_letters)) : FnOk P w K mg base (L2N.CX P w) 4 (ad 9) (fd 9) ["n", "kind", "strikes"] (spD ⟨K, true⟩ ec [false, false, false] fn_letters_for) := by
  exact fnF T.F_letters_for sc_letters_for rfl (by decide) fun cdv A outer s H E H0 F0 io hx hn hr tk hp => show PSsD _ _ _ _ bd_letters_for from
    s_cons (s_set (i := 3) sc_letters_for.nd rfl (.inl rfl) (d_call (n := 2) (G_round_of_ribbon.mono (by decide)) hr (by rfl) T.g_round_of_ribbon T.F_round_of_ribbon.kp T.b_round_of_ribbon tk (a_cons (d_var (pv 0)) (a_cons (d_var (pv 1)) (a_nil)))))
    (s_cons (s_drop (d_call (n := 2) (G_check_letters.mono (by decide)) hr (by rfl) T.g_check_letters T.F_check_letters.kp T.b_check_letters tk (a_cons (d_var (pv 2)) (a_cons (d_int) (a_nil)))))
    (s_one (s_ret (d_if (d_cmpT (op_eqP hr.units) D_eq (d_var (pv 1)) (d_str) (nomark _)) (d_op o_add D_add (d_op o_mul D_mul (d_op op_sub D_sub (d_var (pv 2)) (d_int)) (d_var (pv 3))) (d_var (pv 0))) (d_op o_mul D_mul (d_var (pv 2)) (d_var (pv 0)))))))
theorem ok__law_word (T : Txt K mg ad fd ec)  : FnX P w K mg base (L2N.CX P w) 1 (ad 10) (fd 10) ["e"] (spX ⟨K, true⟩ ec fn__law_word) := by
  exact fnXF T.F__law_word sc__law_word rfl (by decide) fun cdv A outer s H E p q H0 F0 io hx hn hr hh hq2 hq1 => show PSsD _ _ _ _ bd__law_word from
    s_cons (s_set (i := 1) sc__law_word.nd rfl (.inl rfl) (d_lst (a_cons (d_isE T.errs hh rfl (by rfl) T.n_isinstance (by rfl) T.x_OutOfRange (pv 0)) (a_cons (d_isE T.errs hh rfl (by rfl) T.n_isinstance (by rfl) T.x_Malformed (pv 0)) (a_cons (d_isE T.errs hh rfl (by rfl) T.n_isinstance (by rfl) T.x_NotThere (pv 0)) (a_cons (d_isE T.errs hh rfl (by rfl) T.n_isinstance (by rfl) T.x_Refused (pv 0)) (a_cons (d_isE T.errs hh rfl (by rfl) T.n_isinstance (by rfl) T.x_TooMuch (pv 0)) (a_nil))))))))
    (s_cons (s_if (d_cmpT (op_neP (hu64 hr)) D_ne (d_blt c_len D_len (by rfl) T.n_len PySem.boot_len (a_cons (d_lcQ (own := [("one", 2)]) hq1 hq2 sc__law_word.nd (d_var (pv 1)) (blkOk_by (own := [("one", 2)]) (N := N__law_word) (sc := (defScope s__law_word)) (by decide +kernel)) (by decide) (fun _ _ _ _ _ _ _ => g_name (i := 2) sc__law_word.nd rfl (.inl rfl)) (fun _ _ _ _ _ _ _ => ts_one (d_val (d_var (pv 2)))) (fun _ _ _ _ _ _ _ => d_var (pv 2))) (a_nil))) (d_int) (nomark _)) (s_one (s_ret (d_str))) (s_nil))
    (s_one (s_ret (d_ix rfl (fun z => nomatch z) (hu64 hr) (d_lst (a_cons (d_str) (a_cons (d_str) (a_cons (d_str) (a_cons (d_str) (a_cons (d_str) (a_nil))))))) (d_metR rfl PySem.F.plainAttrs_list PySem.F.slot_list_index PySem.F.type_list_index mt_index M_index (d_var (pv 1)) (a_cons (d_bl) (a_nil))) (fun _ _ => rfl)))))
theorem ok__law_told (T : Txt K mg ad fd ec) (G_round_of_ribbon : FnOk P w K mg base (L2N.CX P w) 3 (ad 4) (fd 4) ["n", "kind"] (spD ⟨K, true⟩ ec [false, false] fn_round_of_ribbon)) (G_spot_of : FnOk P w K mg base (L2N.CX P w) 4 (ad 6) (fd 6) ["n", "kind", "letter"] (spD ⟨K, true⟩ ec [false, false, false] fn_spot_of)) (G_strikes_on : FnOk P w K mg base (L2N.CX P w) 4 (ad 8) (fd 8) ["n", "kind", "spot", "letters"] (spD ⟨K, true⟩ ec [false, false, false, false] fn_strikes_on)) (G_letters_for : FnOk P w K mg base (L2N.CX P w) 4 (ad 9) (fd 9) ["n", "kind", "strikes"] (spD ⟨K, true⟩ ec [false, false, false] fn_letters_for)) (G__law_word : FnX P w K mg base (L2N.CX P w) 1 (ad 10) (fd 10) ["e"] (spX ⟨K, true⟩ ec fn__law_word)) : FnOk P w K mg base (L2N.CX P w) 5 (ad 11) (fd 11) ["which", "n", "kind", "one", "two"] (spD ⟨K, true⟩ ec [false, false, false, false, false] fn__law_told) := by
  exact fnF T.F__law_told sc__law_told rfl (by decide) fun cdv A outer s H E H0 F0 io hx hn hr tk hp => show PSsD _ _ _ _ bd__law_told from
    s_one (s_try (i := 5) (m := "PrintError") T.errs rfl rfl rfl sc__law_told.nd rfl rfl (by rfl) T.x_PrintError tk (fun _ _ _ tk1 hp1 => s_cons (s_if (d_cmpT (op_eqP hr.units) D_eq (d_var (pv 0)) (d_int) (nomark _)) (s_one (s_ret (d_call (n := 2) (G_round_of_ribbon.mono (by decide)) hr (by rfl) T.g_round_of_ribbon T.F_round_of_ribbon.kp T.b_round_of_ribbon tk1 (a_cons (d_var (pv 1)) (a_cons (d_var (pv 2)) (a_nil)))))) (s_nil))
    (s_cons (s_if (d_cmpT (op_eqP hr.units) D_eq (d_var (pv 0)) (d_int) (nomark _)) (s_one (s_ret (d_call (n := 3) (G_spot_of.mono (by decide)) hr (by rfl) T.g_spot_of T.F_spot_of.kp T.b_spot_of tk1 (a_cons (d_var (pv 1)) (a_cons (d_var (pv 2)) (a_cons (d_var (pv 3)) (a_nil))))))) (s_nil))
    (s_one (s_ret (d_if (d_cmpT (op_eqP hr.units) D_eq (d_var (pv 0)) (d_int) (nomark _)) (d_call (n := 4) (G_strikes_on.mono (by decide)) hr (by rfl) T.g_strikes_on T.F_strikes_on.kp T.b_strikes_on tk1 (a_cons (d_var (pv 1)) (a_cons (d_var (pv 2)) (a_cons (d_var (pv 3)) (a_cons (d_var (pv 4)) (a_nil)))))) (d_call (n := 3) (G_letters_for.mono (by decide)) hr (by rfl) T.g_letters_for T.F_letters_for.kp T.b_letters_for tk1 (a_cons (d_var (pv 1)) (a_cons (d_var (pv 2)) (a_cons (d_var (pv 3)) (a_nil)))))))))) (fun _ _ _ _ hh => s_one (s_ret (d_callX G__law_word (roomH_le hr (by decide)) hh (by rfl) T.g__law_word T.F__law_word.kp T.b__law_word (pv 5)))))
theorem ok__law_take (T : Txt K mg ad fd ec)  : FnOk P w K mg base (L2N.CX P w) 1 (ad 12) (fd 12) ["draws", "bound"] (spD ⟨K, true⟩ ec [true, false] fn__law_take) := by
  exact fnF T.F__law_take sc__law_take rfl (by decide) fun cdv A outer s H E H0 F0 io hx hn hr tk hp => show PSsD _ _ _ _ bd__law_take from
    s_cons (s_if (d_cmpT (op_eqP hr.units) D_eq (d_blt c_len D_len (by rfl) T.n_len PySem.boot_len (a_cons (d_var (pv 0)) (a_nil))) (d_int) (nomark _)) (s_one (s_ret (d_int))) (s_nil))
    (s_one (s_ret (d_op o_mod D_mod (d_bltT call_int1 D_int (by rfl) T.n_int PyProof.Rows.boot_int (a_cons (d_met0 PySem.F.plainAttrs_list PySem.F.slot_list_pop PySem.F.type_list_pop mt_pop M_pop (pv 0)) (a_nil))) (d_var (pv 1)))))
theorem ok0__law_alike (T : Txt K mg ad fd ec)  : ∀ n : Nat, FnOk P w K mg base (L2N.CX P w) (0 + n) (ad 13) (fd 13) ["found", "due"] (spD ⟨K, true⟩ ec [false, false] (fr__law_alike n))
  | 0 => ⟨fun vs H Q E ⟨F, ds, qs, e, h, _⟩ => h.len, fun A outer s H args us vs Q E hr he hb hv ⟨F, ds, qs, e, h, z⟩ => z.elim⟩
  | n + 1 => by
    have Grec := ok0__law_alike T  n
    exact fnF T.F__law_alike sc__law_alike rfl (by decide) fun cdv A outer s H E H0 F0 io hx hn hr tk hp => by
      have hrr := hr
      have hr : Room 0 _ := hr.mono (Nat.le_add_right _ _)
      exact (show PSsD _ _ _ _ (bd__law_alike (fr__law_alike n)) from
    s_cons (s_if (PW.pt (w_or (d_val (d_isi (T := "list") rfl (by decide) (by rfl) T.n_isinstance (by rfl) T.n_list PyProof.Rows.boot_list (d_var (pv 1)))) (w_or1 (d_val (d_isi (T := "tuple") rfl (by decide) (by rfl) T.n_isinstance (by rfl) T.n_tuple PyProof.Rows.boot_tuple (d_var (pv 1))))))) (s_cons (s_if (PW.pt (w_or (d_cmpT (op_neP hr.units) D_ne (d_isi (T := "list") rfl (by decide) (by rfl) T.n_isinstance (by rfl) T.n_list PyProof.Rows.boot_list (d_var (pv 0))) (d_isi (T := "list") rfl (by decide) (by rfl) T.n_isinstance (by rfl) T.n_list PyProof.Rows.boot_list (d_var (pv 1))) (nomark _)) (w_or1 (d_cmpT (op_neP hr.units) D_ne (d_isi (T := "tuple") rfl (by decide) (by rfl) T.n_isinstance (by rfl) T.n_tuple PyProof.Rows.boot_tuple (d_var (pv 0))) (d_isi (T := "tuple") rfl (by decide) (by rfl) T.n_isinstance (by rfl) T.n_tuple PyProof.Rows.boot_tuple (d_var (pv 1))) (nomark _))))) (s_one (s_ret (d_bl))) (s_nil))
    (s_one (s_ret (d_and (d_cmp (op_eqP hr.units) D_eq (d_blt c_len D_len (by rfl) T.n_len PySem.boot_len (a_cons (d_var (pv 0)) (a_nil))) (d_blt c_len D_len (by rfl) T.n_len PySem.boot_len (a_cons (d_var (pv 1)) (a_nil))) (nomark _)) (d_one (d_cmp (op_eqP hr.units) D_eq (d_lc (own := [("k", 2)]) rfl sc__law_alike.nd (i_range1 (by rfl) T.n_range (a_cons (d_blt c_len D_len (by rfl) T.n_len PySem.boot_len (a_cons (d_var (pv 1)) (a_nil))) (a_nil))) (blkOk_by (own := [("k", 2)]) (N := N__law_alike) (sc := (defScope s__law_alike)) (by decide +kernel)) (by decide) (fun _ _ _ _ _ _ _ => g_name (i := 2) sc__law_alike.nd rfl (.inl rfl)) (fun _ _ _ _ _ _ _ => ts_one (t_not (d_val (d_call Grec hrr (by rfl) T.g__law_alike T.F__law_alike.kp T.b__law_alike takesNo (a_cons (d_ix rfl (fun z => nomatch z) hr.units (d_var (pv 0)) (d_var (pv 2)) (fun _ _ => rfl)) (a_cons (d_ix rfl (fun z => nomatch z) hr.units (d_var (pv 1)) (d_var (pv 2)) (fun _ _ => rfl)) (a_nil))))))) (fun _ _ _ _ _ _ _ => d_var (pv 2))) (d_lst (a_nil)) (nomark _))))))) (s_nil))
    (s_cons (s_if (d_cmpT o_is D_is (d_var (pv 1)) (d_non) (nomark _)) (s_one (s_ret (d_cmp o_is D_is (d_var (pv 0)) (d_non) (nomark _)))) (s_nil))
    (s_cons (s_if (PW.pt (w_or (d_val (d_isi (T := "bool") rfl (by decide) (by rfl) T.n_isinstance (by rfl) T.n_bool PyProof.Rows.boot_bool (d_var (pv 1)))) (w_or1 (d_val (d_isi (T := "bool") rfl (by decide) (by rfl) T.n_isinstance (by rfl) T.n_bool PyProof.Rows.boot_bool (d_var (pv 0))))))) (s_one (s_ret (d_and (d_isi (T := "bool") rfl (by decide) (by rfl) T.n_isinstance (by rfl) T.n_bool PyProof.Rows.boot_bool (d_var (pv 0))) (d_and (d_isi (T := "bool") rfl (by decide) (by rfl) T.n_isinstance (by rfl) T.n_bool PyProof.Rows.boot_bool (d_var (pv 1))) (d_one (d_cmp (op_eqP hr.units) D_eq (d_var (pv 0)) (d_var (pv 1)) (nomark _))))))) (s_nil))
    (s_cons (s_if (d_val (d_isi (T := "int") rfl (by decide) (by rfl) T.n_isinstance (by rfl) T.n_int PyProof.Rows.boot_int (d_var (pv 1)))) (s_one (s_ret (d_and (d_isi (T := "int") rfl (by decide) (by rfl) T.n_isinstance (by rfl) T.n_int PyProof.Rows.boot_int (d_var (pv 0))) (d_one (d_cmp (op_eqP hr.units) D_eq (d_var (pv 0)) (d_var (pv 1)) (nomark _)))))) (s_nil))
    (s_one (s_ret (d_and (d_isi (T := "str") rfl (by decide) (by rfl) T.n_isinstance (by rfl) T.n_str PyProof.Rows.boot_str (d_var (pv 0))) (d_one (d_cmp (op_eqP hr.units) D_eq (d_var (pv 0)) (d_var (pv 1)) (nomark _))))))))))
theorem ok__law_alike (T : Txt K mg ad fd ec)  : FnOk P w K mg base (L2N.CX P w) 9 (ad 13) (fd 13) ["found", "due"] (spD ⟨K, true⟩ ec [false, false] fn__law_alike) := (ok0__law_alike T  8).mono (by decide)
theorem ok_law (T : Txt K mg ad fd ec) (G__law_draws : FnOk P w K mg base (L2N.CX P w) 1 (ad 0) (fd 0) ["script"] (spD ⟨K, true⟩ ec [false] fn__law_draws)) (G__law_take : FnOk P w K mg base (L2N.CX P w) 1 (ad 12) (fd 12) ["draws", "bound"] (spD ⟨K, true⟩ ec [true, false] fn__law_take)) (G__law_walk : FnOk P w K mg base (L2N.CX P w) 1 (ad 1) (fd 1) ["n", "kind", "letters"] (spD ⟨K, true⟩ ec [false, false, false] fn__law_walk)) (G__law_told : FnOk P w K mg base (L2N.CX P w) 5 (ad 11) (fd 11) ["which", "n", "kind", "one", "two"] (spD ⟨K, true⟩ ec [false, false, false, false, false] fn__law_told)) (G__law_alike : FnOk P w K mg base (L2N.CX P w) 9 (ad 13) (fd 13) ["found", "due"] (spD ⟨K, true⟩ ec [false, false] fn__law_alike)) : FnOk P w K mg base (L2N.CX P w) 10 (ad 14) (fd 14) ["script"] (spD ⟨K, true⟩ ec [false] fn_law) := by
  exact fnF T.F_law sc_law rfl (by decide) fun cdv A outer s H E H0 F0 io hx hn hr tk hp => show PSsD _ _ _ _ bd_law from
    s_cons (s_set (i := 1) sc_law.nd rfl (.inl rfl) (d_call (n := 1) (G__law_draws.mono (by decide)) hr (by rfl) T.g__law_draws T.F__law_draws.kp T.b__law_draws tk (a_cons (d_var (pv 0)) (a_nil))))
    (s_cons (s_set (i := 2) sc_law.nd rfl (.inr rfl) (d_op o_add D_add (d_int) (d_callM (G__law_take.mono (by decide)) hr (by rfl) T.g__law_take T.F__law_take.kp T.b__law_take tk (a_cons (d_var (pv 1)) (a_cons (d_ix rfl (fun z => nomatch z) hr.units (d_lst (a_cons (d_int) (a_cons (d_int) (a_nil)))) (d_callM (G__law_take.mono (by decide)) hr (by rfl) T.g__law_take T.F__law_take.kp T.b__law_take tk (a_cons (d_var (pv 1)) (a_cons (d_int) (a_nil)))) (fun _ _ => rfl)) (a_nil))))))
    (s_cons (s_set (i := 3) sc_law.nd rfl (.inr rfl) (d_ix rfl (fun z => nomatch z) hr.units (d_lst (a_cons (d_str) (a_cons (d_str) (a_nil)))) (d_callM (G__law_take.mono (by decide)) hr (by rfl) T.g__law_take T.F__law_take.kp T.b__law_take tk (a_cons (d_var (pv 1)) (a_cons (d_int) (a_nil)))) (fun _ _ => rfl)))
    (s_cons (s_set (i := 4) sc_law.nd rfl (.inr rfl) (d_call (n := 3) (G__law_walk.mono (by decide)) hr (by rfl) T.g__law_walk T.F__law_walk.kp T.b__law_walk tk (a_cons (d_var (pv 2)) (a_cons (d_var (pv 3)) (a_cons (d_op o_mul D_mul (d_int) (d_var (pv 2))) (a_nil))))))
    (s_cons (s_set (i := 5) sc_law.nd rfl (.inr rfl) (d_call (n := 5) (G__law_told.mono (by decide)) hr (by rfl) T.g__law_told T.F__law_told.kp T.b__law_told tk (a_cons (d_int) (a_cons (d_var (pv 2)) (a_cons (d_var (pv 3)) (a_cons (d_int) (a_cons (d_int) (a_nil))))))))
    (s_cons (s_if (PW.pt (w_or (d_val (d_isi (T := "bool") rfl (by decide) (by rfl) T.n_isinstance (by rfl) T.n_bool PyProof.Rows.boot_bool (d_var (pv 5)))) (w_or (t_not (d_val (d_isi (T := "int") rfl (by decide) (by rfl) T.n_isinstance (by rfl) T.n_int PyProof.Rows.boot_int (d_var (pv 5))))) (w_or1 (d_cmpT (op_neP hr.units) D_ne (d_sl rfl (d_var (pv 4)) (p_at (d_var (pv 5))) (p_at (d_op o_mul D_mul (d_int) (d_var (pv 5))))) (d_sl rfl (d_var (pv 4)) (p_no) (p_at (d_op o_mul D_mul (d_int) (d_var (pv 5))))) (nomark _)))))) (s_one (s_ret (d_bl))) (s_nil))
    (s_cons (s_if (d_cmpT (op_neP hr.units) D_ne (d_lc (own := [("part", 22)]) rfl sc_law.nd (i_range2 (by rfl) T.n_range (a_cons (d_int) (a_cons (d_var (pv 5)) (a_nil)))) (blkOk_by (own := [("part", 22)]) (N := N_law) (sc := (defScope s_law)) (by decide +kernel)) (by decide) (fun _ _ _ _ _ _ _ => g_name (i := 22) sc_law.nd rfl (.inl rfl)) (fun _ _ _ _ _ _ _ => ts_one (d_cmpT (op_eqP hr.units) D_eq (d_sl rfl (d_var (pv 4)) (p_at (d_var (pv 22))) (p_at (d_op o_add D_add (d_var (pv 22)) (d_var (pv 5))))) (d_sl rfl (d_var (pv 4)) (p_no) (p_at (d_var (pv 5)))) (nomark _))) (fun _ _ _ _ _ _ _ => d_var (pv 22))) (d_lst (a_nil)) (nomark _)) (s_one (s_ret (d_bl))) (s_nil))
    (s_cons (s_set (i := 6) sc_law.nd rfl (.inl rfl) (d_int))
    (s_cons (s_for hp rfl (i_range1 (by rfl) T.n_range (a_cons (d_int) (a_nil))) (g_name (i := 7) sc_law.nd rfl (.inl rfl)) (s_one (s_set (i := 6) sc_law.nd rfl (.inl rfl) (d_op o_add D_add (d_op o_mul D_mul (d_var (pv 6)) (d_int)) (d_callM (G__law_take.mono (by decide)) hr (by rfl) T.g__law_take T.F__law_take.kp T.b__law_take tk (a_cons (d_var (pv 1)) (a_cons (d_int) (a_nil))))))))
    (s_cons (s_for hp rfl (i_seq rfl (d_lst (a_cons (d_int) (a_cons (d_int) (a_cons (d_op op_sub D_sub (d_var (pv 2)) (d_int)) (a_cons (d_var (pv 2)) (a_cons (d_callM (G__law_take.mono (by decide)) hr (by rfl) T.g__law_take T.F__law_take.kp T.b__law_take tk (a_cons (d_var (pv 1)) (a_cons (d_op o_mul D_mul (d_int) (d_var (pv 2))) (a_nil)))) (a_cons (d_var (pv 6)) (a_nil))))))))) (g_name (i := 8) sc_law.nd rfl (.inl rfl)) (s_cons (s_set (i := 20) sc_law.nd rfl (.inl rfl) (d_if (d_cmpT o_lt D_lt (d_var (pv 8)) (d_blt c_len D_len (by rfl) T.n_len PySem.boot_len (a_cons (d_var (pv 4)) (a_nil))) (nomark _)) (d_ix rfl (fun z => nomatch z) hr.units (d_var (pv 4)) (d_var (pv 8)) (fun _ _ => rfl)) (d_ix rfl (fun z => nomatch z) hr.units (d_var (pv 4)) (d_op o_mod D_mod (d_bltT call_int1 D_int (by rfl) T.n_int PyProof.Rows.boot_int (a_cons (d_var (pv 8)) (a_nil))) (d_var (pv 5))) (fun _ _ => rfl))))
    (s_one (s_if (t_not (d_val (d_call (n := 2) (G__law_alike.mono (by decide)) hr (by rfl) T.g__law_alike T.F__law_alike.kp T.b__law_alike tk (a_cons (d_call (n := 5) (G__law_told.mono (by decide)) hr (by rfl) T.g__law_told T.F__law_told.kp T.b__law_told tk (a_cons (d_int) (a_cons (d_var (pv 2)) (a_cons (d_var (pv 3)) (a_cons (d_var (pv 8)) (a_cons (d_int) (a_nil))))))) (a_cons (d_var (pv 20)) (a_nil)))))) (s_one (s_ret (d_bl))) (s_nil)))))
    (s_cons (s_for hp rfl (i_range1 (by rfl) T.n_range (a_cons (d_int) (a_nil))) (g_name (i := 7) sc_law.nd rfl (.inl rfl)) (s_cons (s_set (i := 15) sc_law.nd rfl (.inr rfl) (d_ix rfl (fun z => nomatch z) hr.units (d_lst (a_cons (d_int) (a_cons (d_op op_sub D_sub (d_var (pv 2)) (d_int)) (a_cons (d_callM (G__law_take.mono (by decide)) hr (by rfl) T.g__law_take T.F__law_take.kp T.b__law_take tk (a_cons (d_var (pv 1)) (a_cons (d_var (pv 2)) (a_nil)))) (a_cons (d_callM (G__law_take.mono (by decide)) hr (by rfl) T.g__law_take T.F__law_take.kp T.b__law_take tk (a_cons (d_var (pv 1)) (a_cons (d_var (pv 2)) (a_nil)))) (a_nil)))))) (d_var (pv 7)) (fun _ _ => rfl)))
    (s_one (s_for hp rfl (i_seq rfl (d_lst (a_cons (d_int) (a_cons (d_int) (a_cons (d_callM (G__law_take.mono (by decide)) hr (by rfl) T.g__law_take T.F__law_take.kp T.b__law_take tk (a_cons (d_var (pv 1)) (a_cons (d_op o_mul D_mul (d_int) (d_var (pv 2))) (a_nil)))) (a_cons (d_var (pv 6)) (a_nil))))))) (g_name (i := 12) sc_law.nd rfl (.inr rfl)) (s_cons (s_set (i := 21) sc_law.nd rfl (.inl rfl) (d_if (d_cmpT o_lt D_lt (d_var (pv 12)) (d_blt c_len D_len (by rfl) T.n_len PySem.boot_len (a_cons (d_var (pv 4)) (a_nil))) (nomark _)) (d_int) (d_op o_div D_div (d_var (pv 12)) (d_var (pv 5)))))
    (s_cons (s_set (i := 20) sc_law.nd rfl (.inl rfl) (d_op o_add D_add (d_blt c_len D_len (by rfl) T.n_len PySem.boot_len (a_cons (d_lc (own := [("one", 23)]) rfl sc_law.nd (i_seq rfl (d_sl rfl (d_var (pv 4)) (p_no) (p_at (d_op op_sub D_sub (d_var (pv 12)) (d_op o_mul D_mul (d_var (pv 21)) (d_var (pv 5))))))) (blkOk_by (own := [("one", 23)]) (N := N_law) (sc := (defScope s_law)) (by decide +kernel)) (by decide) (fun _ _ _ _ _ _ _ => g_name (i := 23) sc_law.nd rfl (.inl rfl)) (fun _ _ _ _ _ _ _ => ts_one (d_cmpT (op_eqP hr.units) D_eq (d_var (pv 23)) (d_var (pv 15)) (nomark _))) (fun _ _ _ _ _ _ _ => d_var (pv 23))) (a_nil))) (d_op o_mul D_mul (d_var (pv 21)) (d_blt c_len D_len (by rfl) T.n_len PySem.boot_len (a_cons (d_lc (own := [("one", 23)]) rfl sc_law.nd (i_seq rfl (d_sl rfl (d_var (pv 4)) (p_no) (p_at (d_var (pv 5))))) (blkOk_by (own := [("one", 23)]) (N := N_law) (sc := (defScope s_law)) (by decide +kernel)) (by decide) (fun _ _ _ _ _ _ _ => g_name (i := 23) sc_law.nd rfl (.inl rfl)) (fun _ _ _ _ _ _ _ => ts_one (d_cmpT (op_eqP hr.units) D_eq (d_var (pv 23)) (d_var (pv 15)) (nomark _))) (fun _ _ _ _ _ _ _ => d_var (pv 23))) (a_nil))))))
    (s_one (s_if (t_not (d_val (d_call (n := 2) (G__law_alike.mono (by decide)) hr (by rfl) T.g__law_alike T.F__law_alike.kp T.b__law_alike tk (a_cons (d_call (n := 5) (G__law_told.mono (by decide)) hr (by rfl) T.g__law_told T.F__law_told.kp T.b__law_told tk (a_cons (d_int) (a_cons (d_var (pv 2)) (a_cons (d_var (pv 3)) (a_cons (d_var (pv 15)) (a_cons (d_var (pv 12)) (a_nil))))))) (a_cons (d_var (pv 20)) (a_nil)))))) (s_one (s_ret (d_bl))) (s_nil)))))))))
    (s_cons (s_set (i := 9) sc_law.nd rfl (.inr rfl) (d_op o_add D_add (d_int) (d_callM (G__law_take.mono (by decide)) hr (by rfl) T.g__law_take T.F__law_take.kp T.b__law_take tk (a_cons (d_var (pv 1)) (a_cons (d_int) (a_nil))))))
    (s_cons (s_set (i := 10) sc_law.nd rfl (.inl rfl) (d_op o_mul D_mul (d_lst (a_cons (d_int) (a_nil))) (d_var (pv 2))))
    (s_cons (s_set (i := 11) sc_law.nd rfl (.inl rfl) (d_non))
    (s_cons (s_for hp rfl (i_range1 (by rfl) T.n_range (a_cons (d_blt c_len D_len (by rfl) T.n_len PySem.boot_len (a_cons (d_var (pv 4)) (a_nil))) (a_nil))) (g_name (i := 8) sc_law.nd rfl (.inl rfl)) (s_cons (s_put (fun z => nomatch z) hr.units (d_op o_add D_add (d_ix rfl (fun z => nomatch z) hr.units (d_var (pv 10)) (d_ix rfl (fun z => nomatch z) hr.units (d_var (pv 4)) (d_var (pv 8)) (fun _ _ => rfl)) (fun _ _ => rfl)) (d_int)) (pv 10) (d_ix rfl (fun z => nomatch z) hr.units (d_var (pv 4)) (d_var (pv 8)) (fun _ _ => rfl)))
    (s_one (s_if (PW.pt (w_and (d_cmpT o_is D_is (d_var (pv 11)) (d_non) (nomark _)) (w_and1 (d_cmpT o_ge D_ge (d_blt (c_min rfl) D_min (by rfl) T.n_min PyProof.Rows.boot_min (a_cons (d_var (pv 10)) (a_nil))) (d_var (pv 9)) (nomark _))))) (s_one (s_set (i := 11) sc_law.nd rfl (.inl rfl) (d_op o_add D_add (d_var (pv 8)) (d_int)))) (s_nil)))))
    (s_cons (s_if (t_not (d_val (d_call (n := 2) (G__law_alike.mono (by decide)) hr (by rfl) T.g__law_alike T.F__law_alike.kp T.b__law_alike tk (a_cons (d_call (n := 5) (G__law_told.mono (by decide)) hr (by rfl) T.g__law_told T.F__law_told.kp T.b__law_told tk (a_cons (d_int) (a_cons (d_var (pv 2)) (a_cons (d_var (pv 3)) (a_cons (d_var (pv 9)) (a_cons (d_int) (a_nil))))))) (a_cons (d_var (pv 11)) (a_nil)))))) (s_one (s_ret (d_bl))) (s_nil))
    (s_cons (s_set (i := 12) sc_law.nd rfl (.inr rfl) (d_callM (G__law_take.mono (by decide)) hr (by rfl) T.g__law_take T.F__law_take.kp T.b__law_take tk (a_cons (d_var (pv 1)) (a_cons (d_op o_mul D_mul (d_int) (d_var (pv 2))) (a_nil)))))
    (s_cons (s_setLc (k := 10) (own := [("spot", 15)]) rfl sc_law.nd rfl rfl (sw_true rfl rfl rfl rfl) (i_range1 (by rfl) T.n_range (a_cons (d_var (pv 2)) (a_nil))) (blkOk_by (own := [("spot", 15)]) (N := N_law) (sc := (defScope s_law)) (by decide +kernel)) (by decide) (fun _ _ _ _ _ _ _ => g_name (i := 15) sc_law.nd rfl (.inl rfl)) (fun _ _ _ _ _ _ _ => ts_nil) (fun _ _ _ _ _ _ _ => d_call (n := 5) (G__law_told.mono (by decide)) hr (by rfl) T.g__law_told T.F__law_told.kp T.b__law_told takesNo (a_cons (d_int) (a_cons (d_var (pv 2)) (a_cons (d_var (pv 3)) (a_cons (d_var (pv 15)) (a_cons (d_var (pv 12)) (a_nil))))))))
    (s_cons (s_setLc (k := 13) (own := [("spot", 15)]) rfl sc_law.nd rfl rfl (sw_true rfl rfl rfl rfl) (i_range1 (by rfl) T.n_range (a_cons (d_var (pv 2)) (a_nil))) (blkOk_by (own := [("spot", 15)]) (N := N_law) (sc := (defScope s_law)) (by decide +kernel)) (by decide) (fun _ _ _ _ _ _ _ => g_name (i := 15) sc_law.nd rfl (.inl rfl)) (fun _ _ _ _ _ _ _ => ts_nil) (fun _ _ _ _ _ _ _ => d_call (n := 5) (G__law_told.mono (by decide)) hr (by rfl) T.g__law_told T.F__law_told.kp T.b__law_told takesNo (a_cons (d_int) (a_cons (d_var (pv 2)) (a_cons (d_var (pv 3)) (a_cons (d_var (pv 15)) (a_cons (d_op o_mul D_mul (d_var (pv 5)) (d_var (pv 9))) (a_nil))))))))
    (s_cons (s_if (PW.pt (w_and (d_cmpT (op_eqP hr.units) D_eq (d_var (pv 3)) (d_str) (nomark _)) (w_and1 (PW.pt (w_or (d_cmpT o_gt D_gt (d_op op_sub D_sub (d_blt (c_max rfl) D_max (by rfl) T.n_max PyProof.Rows.boot_max (a_cons (d_var (pv 10)) (a_nil))) (d_blt (c_min rfl) D_min (by rfl) T.n_min PyProof.Rows.boot_min (a_cons (d_var (pv 10)) (a_nil)))) (d_int) (nomark _)) (w_or1 (d_cmpT (op_neP hr.units) D_ne (d_var (pv 13)) (d_op o_mul D_mul (d_lst (a_cons (d_op o_mul D_mul (d_int) (d_var (pv 9))) (a_nil))) (d_var (pv 2))) (nomark _)))))))) (s_one (s_ret (d_bl))) (s_nil))
    (s_cons (s_if (PW.pt (w_and (d_cmpT (op_eqP hr.units) D_eq (d_var (pv 3)) (d_str) (nomark _)) (w_and1 (d_cmpT (op_neP hr.units) D_ne (d_var (pv 13)) (d_op o_add D_add (d_op o_add D_add (d_lst (a_cons (d_var (pv 9)) (a_nil))) (d_op o_mul D_mul (d_lst (a_cons (d_op o_mul D_mul (d_int) (d_var (pv 9))) (a_nil))) (d_op op_sub D_sub (d_var (pv 2)) (d_int)))) (d_lst (a_cons (d_var (pv 9)) (a_nil)))) (nomark _))))) (s_one (s_ret (d_bl))) (s_nil))
    (s_cons (s_set (i := 14) sc_law.nd rfl (.inr rfl) (d_op o_add D_add (d_op o_add D_add (d_int) (d_op o_mul D_mul (d_callM (G__law_take.mono (by decide)) hr (by rfl) T.g__law_take T.F__law_take.kp T.b__law_take tk (a_cons (d_var (pv 1)) (a_cons (d_int) (a_nil)))) (d_int))) (d_callM (G__law_take.mono (by decide)) hr (by rfl) T.g__law_take T.F__law_take.kp T.b__law_take tk (a_cons (d_var (pv 1)) (a_cons (d_int) (a_nil))))))
    (s_cons (s_set (i := 15) sc_law.nd rfl (.inr rfl) (d_call (n := 5) (G__law_told.mono (by decide)) hr (by rfl) T.g__law_told T.F__law_told.kp T.b__law_told tk (a_cons (d_int) (a_cons (d_var (pv 14)) (a_cons (d_var (pv 3)) (a_cons (d_var (pv 6)) (a_cons (d_int) (a_nil))))))))
    (s_cons (s_if (PW.pt (w_or (d_val (d_isi (T := "bool") rfl (by decide) (by rfl) T.n_isinstance (by rfl) T.n_bool PyProof.Rows.boot_bool (d_var (pv 15)))) (w_or (t_not (d_val (d_isi (T := "int") rfl (by decide) (by rfl) T.n_isinstance (by rfl) T.n_int PyProof.Rows.boot_int (d_var (pv 15))))) (w_or (t_not (t_chain o_le o_lt D_le D_lt (d_int) (d_var (pv 15)) (d_var (pv 14)) (by rfl))) (w_or1 (d_cmpT (op_neP hr.units) D_ne (d_call (n := 5) (G__law_told.mono (by decide)) hr (by rfl) T.g__law_told T.F__law_told.kp T.b__law_told tk (a_cons (d_int) (a_cons (d_var (pv 14)) (a_cons (d_var (pv 3)) (a_cons (d_var (pv 15)) (a_cons (d_op o_add D_add (d_var (pv 6)) (d_int)) (a_nil))))))) (d_op o_add D_add (d_call (n := 5) (G__law_told.mono (by decide)) hr (by rfl) T.g__law_told T.F__law_told.kp T.b__law_told tk (a_cons (d_int) (a_cons (d_var (pv 14)) (a_cons (d_var (pv 3)) (a_cons (d_var (pv 15)) (a_cons (d_var (pv 6)) (a_nil))))))) (d_int)) (nomark _))))))) (s_one (s_ret (d_bl))) (s_nil))
    (s_cons (s_set (i := 16) sc_law.nd rfl (.inr rfl) (d_call (n := 5) (G__law_told.mono (by decide)) hr (by rfl) T.g__law_told T.F__law_told.kp T.b__law_told tk (a_cons (d_int) (a_cons (d_var (pv 14)) (a_cons (d_var (pv 3)) (a_cons (d_op o_add D_add (d_int) (d_var (pv 6))) (a_cons (d_int) (a_nil))))))))
    (s_cons (s_set (i := 17) sc_law.nd rfl (.inl rfl) (d_blt (c_min rfl) D_min (by rfl) T.n_min PyProof.Rows.boot_min (a_cons (d_lc (own := [("one", 23)]) rfl sc_law.nd (i_seq rfl (d_lst (a_cons (d_int) (a_cons (d_int) (a_cons (d_op o_div D_div (d_var (pv 14)) (d_int)) (a_cons (d_op op_sub D_sub (d_var (pv 14)) (d_int)) (a_cons (d_op op_sub D_sub (d_var (pv 14)) (d_int)) (a_nil)))))))) (blkOk_by (own := [("one", 23)]) (N := N_law) (sc := (defScope s_law)) (by decide +kernel)) (by decide) (fun _ _ _ _ _ _ _ => g_name (i := 23) sc_law.nd rfl (.inl rfl)) (fun _ _ _ _ _ _ _ => ts_nil) (fun _ _ _ _ _ _ _ => d_call (n := 5) (G__law_told.mono (by decide)) hr (by rfl) T.g__law_told T.F__law_told.kp T.b__law_told takesNo (a_cons (d_int) (a_cons (d_var (pv 14)) (a_cons (d_var (pv 3)) (a_cons (d_var (pv 23)) (a_cons (d_var (pv 16)) (a_nil)))))))) (a_nil))))
    (s_cons (s_if (PW.pt (w_or (d_cmpT (op_neP hr.units) D_ne (d_var (pv 17)) (d_op o_add D_add (d_int) (d_var (pv 6))) (nomark _)) (w_or1 (d_cmpT o_ge D_ge (d_blt (c_min rfl) D_min (by rfl) T.n_min PyProof.Rows.boot_min (a_cons (d_lc (own := [("one", 23)]) rfl sc_law.nd (i_seq rfl (d_lst (a_cons (d_int) (a_cons (d_op op_sub D_sub (d_var (pv 14)) (d_int)) (a_nil))))) (blkOk_by (own := [("one", 23)]) (N := N_law) (sc := (defScope s_law)) (by decide +kernel)) (by decide) (fun _ _ _ _ _ _ _ => g_name (i := 23) sc_law.nd rfl (.inl rfl)) (fun _ _ _ _ _ _ _ => ts_nil) (fun _ _ _ _ _ _ _ => d_call (n := 5) (G__law_told.mono (by decide)) hr (by rfl) T.g__law_told T.F__law_told.kp T.b__law_told takesNo (a_cons (d_int) (a_cons (d_var (pv 14)) (a_cons (d_var (pv 3)) (a_cons (d_var (pv 23)) (a_cons (d_op op_sub D_sub (d_var (pv 16)) (d_int)) (a_nil)))))))) (a_nil))) (d_op o_add D_add (d_int) (d_var (pv 6))) (nomark _))))) (s_one (s_ret (d_bl))) (s_nil))
    (s_cons (s_setLc (k := 18) (own := [("which", 24), ("one", 23)]) rfl sc_law.nd rfl rfl (sw_true rfl rfl rfl rfl) (i_seq rfl (d_lst (a_cons (d_tup (a_cons (d_int) (a_cons (d_int) (a_nil)))) (a_cons (d_tup (a_cons (d_int) (a_cons (d_op o_add D_add (d_op op_pow D_pow (d_int) (d_int)) (d_int)) (a_nil)))) (a_cons (d_tup (a_cons (d_int) (a_cons (d_int) (a_nil)))) (a_cons (d_tup (a_cons (d_int) (a_cons (d_int) (a_nil)))) (a_cons (d_tup (a_cons (d_int) (a_cons (d_int) (a_nil)))) (a_cons (d_tup (a_cons (d_int) (a_cons (d_op o_add D_add (d_op op_pow D_pow (d_int) (d_int)) (d_int)) (a_nil)))) (a_nil))))))))) (blkOk_by (own := [("which", 24), ("one", 23)]) (N := N_law) (sc := (defScope s_law)) (by decide +kernel)) (by decide) (fun _ _ _ _ _ _ _ => g_tup rfl rfl (g_cons (g_name (i := 24) sc_law.nd rfl (.inl rfl)) (g_cons (g_name (i := 23) sc_law.nd rfl (.inl rfl)) (g_nil))) rfl) (fun _ _ _ _ _ _ _ => ts_nil) (fun _ _ _ _ _ _ _ => d_call (n := 5) (G__law_told.mono (by decide)) hr (by rfl) T.g__law_told T.F__law_told.kp T.b__law_told takesNo (a_cons (d_var (pv 24)) (a_cons (d_var (pv 23)) (a_cons (d_var (pv 3)) (a_cons (d_int) (a_cons (d_int) (a_nil))))))))
    (s_cons (s_set (i := 18) sc_law.nd rfl (.inl rfl) (d_op o_add D_add (d_var (pv 18)) (d_lst (a_cons (d_call (n := 5) (G__law_told.mono (by decide)) hr (by rfl) T.g__law_told T.F__law_told.kp T.b__law_told tk (a_cons (d_int) (a_cons (d_var (pv 2)) (a_cons (d_var (pv 3)) (a_cons (d_neg (d_int)) (a_cons (d_int) (a_nil))))))) (a_cons (d_call (n := 5) (G__law_told.mono (by decide)) hr (by rfl) T.g__law_told T.F__law_told.kp T.b__law_told tk (a_cons (d_int) (a_cons (d_var (pv 2)) (a_cons (d_var (pv 3)) (a_cons (d_int) (a_cons (d_neg (d_int)) (a_nil))))))) (a_cons (d_call (n := 5) (G__law_told.mono (by decide)) hr (by rfl) T.g__law_told T.F__law_told.kp T.b__law_told tk (a_cons (d_int) (a_cons (d_var (pv 2)) (a_cons (d_var (pv 3)) (a_cons (d_int) (a_cons (d_int) (a_nil))))))) (a_nil)))))))
    (s_cons (s_set (i := 19) sc_law.nd rfl (.inl rfl) (d_op o_add D_add (d_lc (own := [("which", 24), ("one", 23)]) rfl sc_law.nd (i_seq rfl (d_lst (a_cons (d_tup (a_cons (d_int) (a_cons (d_str) (a_nil)))) (a_cons (d_tup (a_cons (d_int) (a_cons (d_str) (a_nil)))) (a_cons (d_tup (a_cons (d_int) (a_cons (d_str) (a_nil)))) (a_cons (d_tup (a_cons (d_int) (a_cons (d_str) (a_nil)))) (a_nil))))))) (blkOk_by (own := [("which", 24), ("one", 23)]) (N := N_law) (sc := (defScope s_law)) (by decide +kernel)) (by decide) (fun _ _ _ _ _ _ _ => g_tup rfl rfl (g_cons (g_name (i := 24) sc_law.nd rfl (.inl rfl)) (g_cons (g_name (i := 23) sc_law.nd rfl (.inl rfl)) (g_nil))) rfl) (fun _ _ _ _ _ _ _ => ts_nil) (fun _ _ _ _ _ _ _ => d_call (n := 5) (G__law_told.mono (by decide)) hr (by rfl) T.g__law_told T.F__law_told.kp T.b__law_told takesNo (a_cons (d_var (pv 24)) (a_cons (d_var (pv 2)) (a_cons (d_var (pv 23)) (a_cons (d_int) (a_cons (d_int) (a_nil)))))))) (d_lc (own := [("one", 23)]) rfl sc_law.nd (i_seq rfl (d_lst (a_cons (d_neg (d_int)) (a_cons (d_var (pv 2)) (a_nil))))) (blkOk_by (own := [("one", 23)]) (N := N_law) (sc := (defScope s_law)) (by decide +kernel)) (by decide) (fun _ _ _ _ _ _ _ => g_name (i := 23) sc_law.nd rfl (.inl rfl)) (fun _ _ _ _ _ _ _ => ts_nil) (fun _ _ _ _ _ _ _ => d_call (n := 5) (G__law_told.mono (by decide)) hr (by rfl) T.g__law_told T.F__law_told.kp T.b__law_told takesNo (a_cons (d_int) (a_cons (d_var (pv 2)) (a_cons (d_var (pv 3)) (a_cons (d_var (pv 23)) (a_cons (d_neg (d_int)) (a_nil))))))))))
    (s_one (s_ret (d_and (d_cmp (op_eqP hr.units) D_eq (d_var (pv 18)) (d_op o_mul D_mul (d_lst (a_cons (d_str) (a_nil))) (d_int)) (nomark _)) (d_one (d_cmp (op_eqP hr.units) D_eq (d_var (pv 19)) (d_op o_mul D_mul (d_lst (a_cons (d_str) (a_nil))) (d_int)) (nomark _)))))))))))))))))))))))))))))))))))
end
end K77
end
section
set_option Elab.async false
set_option linter.all false
set_option maxRecDepth 100000
set_option maxHeartbeats 4000000
namespace K77
open PySem L2 Pd
theorem is_number_int (v a b : Int) : fn_is_number [.int v, .int a, .int b] = .ret (.bool (decide (a ≤ v) && decide (v ≤ b))) [] := by
  unfold fn_is_number toFn initE bd_is_number
  simp [inSl, outsOf, ioIx]
  by_cases h : a ≤ v <;> simp [h]
theorem is_number_none (a b : Int) : fn_is_number [.none, .int a, .int b] = .ret (.bool false) [] := by
  unfold fn_is_number toFn initE bd_is_number
  simp [inSl, outsOf, ioIx]
theorem is_number_bool (k : Bool) (a b : Int) : fn_is_number [.bool k, .int a, .int b] = .ret (.bool false) [] := by
  unfold fn_is_number toFn initE bd_is_number
  simp [inSl, outsOf, ioIx]
theorem word_range : fn__law_word "OutOfRange" = .ret (.str "range") [] := by
  unfold fn__law_word toFnX bd__law_word
  simp [eIsE, kn, km, isE, compF, atI, ixN, mIndex, flatD, PyData.eqv, List.findIdx?, List.findIdx?.go]
theorem word_none : fn__law_word "NotThere" = .ret (.str "none") [] := by
  unfold fn__law_word toFnX bd__law_word
  simp [eIsE, kn, km, isE, compF, atI, ixN, mIndex, flatD, PyData.eqv, List.findIdx?, List.findIdx?.go]
theorem alike_int (x y : Int) : fn__law_alike [.int x, .int y] = .ret (.bool (decide (x = y))) [] := by
  unfold fn__law_alike
  rw [fr__law_alike]
  unfold toFn initE bd__law_alike
  simp [inSl, outsOf, ioIx, fIsN, isNone]
/-! ### draws -/
def DS (d : D) : Prop := ∃ cells : List Int, d = .list (cells.map PyData.int)
theorem take_ok {d : D} (h : DS d) {b : Int} (hb : 0 < b) : ∃ r d', fn__law_take [d, .int b] = .ret (.int r) [d'] ∧ DS d' ∧ 0 ≤ r ∧ r < b := by
  obtain ⟨cells, rfl⟩ := h
  rcases List.eq_nil_or_concat cells with rfl | ⟨cs, c, rfl⟩
  · refine ⟨0, .list [], ?_, ⟨[], rfl⟩, Int.le_refl _, hb⟩
    unfold fn__law_take toFn initE bd__law_take
    simp [inSl, outsOf, ioIx]
  · refine ⟨c % b, .list (cs.map PyData.int), ?_, ⟨cs, rfl⟩, Int.emod_nonneg _ (by omega), Int.emod_lt_of_pos _ hb⟩
    have p : ∀ xs : List D, mPop (.list (xs ++ [.int c])) [] = some (.list xs, .int c) := fun xs => by simp [mPop]
    unfold fn__law_take toFn initE bd__law_take
    have l0 : ¬ ((cs.length : Int) + 1 = 0) := by omega
    simp [inSl, outsOf, ioIx, p, hb, l0]
abbrev drf (cells : List Int) (sc : D) (s2 s3 s4 s5 s6 : Sl) : Pd.Env := [.v sc, .o (.list (cells.map PyData.int)), s2, s3, s4, s5, s6]
theorem ap_int {cells : List Int} {x : Int} (h : cells.length < 16000000) : mAppend (.list (cells.map PyData.int)) [.int x] = some (.list ((cells ++ [x]).map PyData.int), .none) := by
  have ln : lineOk (cells.length + 1) = true := lineOk_s (by omega)
  simp [mAppend, ln]
theorem ap_eq {cells : List Int} {x : Int} (h : cells.length < 16000000) : lineOk (cells.length + 1) = true := lineOk_s (by omega)
theorem dr_inner {sc : D} {s2 s3 s6 : Sl} {cells : List Int} {x : Int} (h : cells.length ≤ 15000000) {s4 : Sl} : ∃ cells' x' s4', cells'.length ≤ cells.length + 60 ∧
    forF (tgN 4) (sIf (eOpT fGt (eVar 5) (eC (.int 0))) (sSeq (sDrop (eMet "list" 1 mAppend (aCons (eOp fMod (eBlt fInt (aCons (eVar 5) (aNil))) (eC (.int 997))) (aNil)))) (sSet 5 (eOp fDiv (eVar 5) (eC (.int 997))))) (sNx)) (rngD 0 60) (drf cells sc s2 s3 s4 (.v (.int x)) s6) = .nx (drf cells' sc s2 s3 s4' (.v (.int x')) s6) := by
  have l := forF_at (g := tgN 4) (S := (sIf (eOpT fGt (eVar 5) (eC (.int 0))) (sSeq (sDrop (eMet "list" 1 mAppend (aCons (eOp fMod (eBlt fInt (aCons (eVar 5) (aNil))) (eC (.int 997))) (aNil)))) (sSet 5 (eOp fDiv (eVar 5) (eC (.int 997))))) (sNx))) (ds := rngD 0 60) (fun i ρ => ∃ cells' x' s4', cells'.length ≤ cells.length + i ∧ ρ = drf cells' sc s2 s3 s4' (.v (.int x')) s6) (by
    rintro i d hd ρ ⟨c, x, s4, hc, rfl⟩
    have hi := get_lt hd
    rw [rngD_len] at hi
    have ln : lineOk (c.length + 1) = true := lineOk_s (by omega)
    by_cases hx : 0 < x
    · exact ⟨_, drf (c ++ [x % 997]) sc s2 s3 (.v d) (.v (.int (x / 997))) s6, rfl, .inl (by simp [hx, mAppend, ln]), _, _, _, by simp; omega, rfl⟩
    · exact ⟨_, drf c sc s2 s3 (.v d) (.v (.int x)) s6, rfl, .inl (by simp [hx]), _, _, _, by omega, rfl⟩) ⟨cells, x, s4, by omega, rfl⟩
  obtain ⟨ρ, h1, c, x', s4', hc, rfl⟩ := l
  exact ⟨c, x', s4', by rw [rngD_len] at hc; exact hc, h1⟩
theorem dr_cell {sc : D} {s3 s4 s5 s6 : Sl} {cells : List Int} {z : Int} (h : cells.length ≤ 14000000) : ∃ cells' s4' s5' s6', cells'.length ≤ cells.length + 62 ∧
    (sSeq (sSet 5 (eBlt fAbs (aCons (eVar 2) (aNil)))) (sSeq (sIf (eOpT fLt (eVar 5) (eOp fPow (eC (.int 10)) (eC (.int 18)))) (sSeq (sSet 6 (eOp fMod (eBlt fInt (aCons (eOp fAdd (eOp fMul (eVar 5) (eC (.int 48271))) (eC (.int 11))) (aNil))) (eC (.int 2147483647)))) (sSeq (sDrop (eMet "list" 1 mAppend (aCons (eOp fMod (eBlt fInt (aCons (eOp fAdd (eOp fMul (eVar 6) (eC (.int 69621))) (eVar 5)) (aNil))) (eC (.int 2147483629))) (aNil)))) (sSeq (sDrop (eMet "list" 1 mAppend (aCons (eOp fMod (eBlt fInt (aCons (eOp fAdd (eVar 6) (eOp fDiv (eVar 5) (eC (.int 7)))) (aNil))) (eC (.int 1000003))) (aNil)))) (sSet 5 (eC (.int 0)))))) (sNx)) (sFor (iRange rng1 (aCons (eC (.int 60)) (aNil))) (tgN 4) (sIf (eOpT fGt (eVar 5) (eC (.int 0))) (sSeq (sDrop (eMet "list" 1 mAppend (aCons (eOp fMod (eBlt fInt (aCons (eVar 5) (aNil))) (eC (.int 997))) (aNil)))) (sSet 5 (eOp fDiv (eVar 5) (eC (.int 997))))) (sNx))))) (drf cells sc (.v (.int z)) s3 s4 s5 s6) = .nx (drf cells' sc (.v (.int z)) s3 s4' s5' s6') := by
  have rg : rngOk 60 = true := rngOk_s (by decide) (by decide)
  obtain ⟨y, hy⟩ : ∃ y, y = if z < 0 then -z else z := ⟨_, rfl⟩
  by_cases hx : y < 1000000000000000000
  · obtain ⟨c, x, t4, hc, hf⟩ := dr_inner (sc := sc) (s2 := .v (.int z)) (s3 := s3) (s4 := s4) (s6 := .v (.int ((y * 48271 + 11) % 2147483647))) (cells := cells ++ [((y * 48271 + 11) % 2147483647 * 69621 + y) % 2147483629] ++ [((y * 48271 + 11) % 2147483647 + y / 7) % 1000003]) (x := 0) (by simp; omega)
    refine ⟨c, t4, .v (.int x), .v (.int ((y * 48271 + 11) % 2147483647)), by simp at hc; omega, ?_⟩
    have ln : lineOk (cells.length + 1) = true := lineOk_s (by omega)
    have ln2 : lineOk (cells.length + 1 + 1) = true := lineOk_s (by omega)
    simp [drf] at hf
    simp [← hy, hx, mAppend, ln, ln2, rg]
    exact hf
  · obtain ⟨c, x, t4, hc, hf⟩ := dr_inner (sc := sc) (s2 := .v (.int z)) (s3 := s3) (s4 := s4) (s6 := s6) (cells := cells) (x := y) (by omega)
    refine ⟨c, t4, .v (.int x), s6, by omega, ?_⟩
    simp [drf] at hf
    simp [← hy, hx, rg]
    exact hf
theorem dr_seed {sc : D} {s2 s4 s5 s6 : Sl} {cells : List Int} {x : Int} (h : cells.length ≤ 14000000) : ∃ cells' x' s4', cells'.length ≤ cells.length + 900 ∧
    forF (tgN 4) (sSeq (sSet 3 (eOp fMod (eBlt fInt (aCons (eOp fAdd (eOp fMul (eVar 3) (eC (.int 48271))) (eC (.int 69621))) (aNil))) (eC (.int 2147483647)))) (sDrop (eMet "list" 1 mAppend (aCons (eOp fDiv (eVar 3) (eC (.int 5))) (aNil))))) (rngD 0 900) (drf cells sc s2 (.v (.int x)) s4 s5 s6) = .nx (drf cells' sc s2 (.v (.int x')) s4' s5 s6) := by
  have l := forF_at (g := tgN 4) (S := (sSeq (sSet 3 (eOp fMod (eBlt fInt (aCons (eOp fAdd (eOp fMul (eVar 3) (eC (.int 48271))) (eC (.int 69621))) (aNil))) (eC (.int 2147483647)))) (sDrop (eMet "list" 1 mAppend (aCons (eOp fDiv (eVar 3) (eC (.int 5))) (aNil)))))) (ds := rngD 0 900) (fun i ρ => ∃ cells' x' s4', cells'.length ≤ cells.length + i ∧ ρ = drf cells' sc s2 (.v (.int x')) s4' s5 s6) (by
    rintro i d hd ρ ⟨c, x, s4, hc, rfl⟩
    have hi := get_lt hd
    rw [rngD_len] at hi
    have ln : lineOk (c.length + 1) = true := lineOk_s (by omega)
    exact ⟨_, drf (c ++ [(x * 48271 + 69621) % 2147483647 / 5]) sc s2 (.v (.int ((x * 48271 + 69621) % 2147483647))) (.v d) s5 s6, rfl, .inl (by simp [mAppend, ln]), _, _, _, by simp; omega, rfl⟩) ⟨cells, x, s4, by omega, rfl⟩
  obtain ⟨ρ, h1, c, x', s4', hc, rfl⟩ := l
  exact ⟨c, x', s4', by rw [rngD_len] at hc; exact hc, h1⟩
theorem draws_ok {ns : List Int} (h : ns.length ≤ 63) : ∃ d, fn__law_draws [scrD (ns.map PyData.int)] = .own d [] ∧ DS d := by
  have l := forF_at (g := tgN 2) (S := (sSeq (sSet 5 (eBlt fAbs (aCons (eVar 2) (aNil)))) (sSeq (sIf (eOpT fLt (eVar 5) (eOp fPow (eC (.int 10)) (eC (.int 18)))) (sSeq (sSet 6 (eOp fMod (eBlt fInt (aCons (eOp fAdd (eOp fMul (eVar 5) (eC (.int 48271))) (eC (.int 11))) (aNil))) (eC (.int 2147483647)))) (sSeq (sDrop (eMet "list" 1 mAppend (aCons (eOp fMod (eBlt fInt (aCons (eOp fAdd (eOp fMul (eVar 6) (eC (.int 69621))) (eVar 5)) (aNil))) (eC (.int 2147483629))) (aNil)))) (sSeq (sDrop (eMet "list" 1 mAppend (aCons (eOp fMod (eBlt fInt (aCons (eOp fAdd (eVar 6) (eOp fDiv (eVar 5) (eC (.int 7)))) (aNil))) (eC (.int 1000003))) (aNil)))) (sSet 5 (eC (.int 0)))))) (sNx)) (sFor (iRange rng1 (aCons (eC (.int 60)) (aNil))) (tgN 4) (sIf (eOpT fGt (eVar 5) (eC (.int 0))) (sSeq (sDrop (eMet "list" 1 mAppend (aCons (eOp fMod (eBlt fInt (aCons (eVar 5) (aNil))) (eC (.int 997))) (aNil)))) (sSet 5 (eOp fDiv (eVar 5) (eC (.int 997))))) (sNx)))))) (ds := ns.map PyData.int) (fun i ρ => ∃ c s2 s4 s5 s6, c.length ≤ 62 * i ∧ ρ = drf c (scrD (ns.map PyData.int)) s2 .u s4 s5 s6) (by
    rintro i d hd ρ ⟨c, s2, s4, s5, s6, hc, rfl⟩
    have hi := get_lt hd
    rw [List.length_map] at hi
    rw [List.getElem?_map, Option.map_eq_some_iff] at hd
    obtain ⟨z, _, rfl⟩ := hd
    obtain ⟨c', t4, t5, t6, hc', e⟩ := dr_cell (sc := scrD (ns.map PyData.int)) (s3 := .u) (s4 := s4) (s5 := s5) (s6 := s6) (z := z) (cells := c) (by omega)
    exact ⟨_, _, rfl, .inl e, c', _, t4, t5, t6, by omega, rfl⟩) (ρ := drf [] (scrD (ns.map PyData.int)) .u .u .u .u .u) ⟨[], _, _, _, _, by simp, rfl⟩
  obtain ⟨ρ, h1, c, s2, s4, s5, s6, hc, rfl⟩ := l
  rw [List.length_map] at hc
  have rg : rngOk 900 = true := rngOk_s (by decide) (by decide)
  cases ns with
  | nil =>
    obtain ⟨c', x', t4, hc', e⟩ := dr_seed (sc := scrD []) (s2 := s2) (s4 := s4) (s5 := s5) (s6 := s6) (cells := c) (x := 1) (by have := Nat.mul_le_mul_left 62 h; omega)
    refine ⟨.list (c'.reverse.map PyData.int), ?_, c'.reverse, rfl⟩
    unfold fn__law_draws toFn initE bd__law_draws
    simp [drf] at h1
    simp [inSl, outsOf, ioIx, scrOf, rg, fLen]
    rw [h1]
    simp [scrOf, rg, fLen]
    rw [e]
    simp
  | cons n ns =>
    obtain ⟨c', x', t4, hc', e⟩ := dr_seed (sc := scrD ((n :: ns).map PyData.int)) (s2 := s2) (s4 := s4) (s5 := s5) (s6 := s6) (cells := c) (x := 1 + if n < 0 then -n else n) (by omega)
    refine ⟨.list (c'.reverse.map PyData.int), ?_, c'.reverse, rfl⟩
    have gt : (0 : Int) < (ns.length : Int) + 1 := by omega
    have a0 : atI (PyData.int n :: ns.map PyData.int) 0 = some (.int n) := by simp [atI, ixN]
    unfold fn__law_draws toFn initE bd__law_draws
    simp [drf] at h1 e
    simp [inSl, outsOf, ioIx, scrOf, rg, fLen]
    rw [h1]
    simp [scrOf, rg, fLen, gt, fIx, a0]
    rw [e]
    simp
end K77
end
section
set_option Elab.async false
set_option linter.all false
set_option maxRecDepth 100000
set_option maxHeartbeats 4000000
namespace K77
open PySem L2 Pd
def kd (k : Bool) : D := match k with
  | true => .str "once"
  | false => .str "twice"
theorem kd_t : kd true = .str "once" := rfl
theorem kd_f : kd false = .str "twice" := rfl
def sz (n : Int) (k : Bool) : Int := if k then 2 * n - 2 else 2 * n
def sp (n : Int) (k : Bool) (t : Int) : Int := if t % sz n k < n then t % sz n k else (if k then sz n k - t % sz n k else sz n k - 1 - t % sz n k)
def ft (z f m : Int) : Int := if f < m then (m - f - 1) / z + 1 else 0
def st (n : Int) (k : Bool) (s m : Int) : Int := if k then (if s = 0 ∨ s = n - 1 then ft (sz n k) s m else ft (sz n k) s m + ft (sz n k) (2 * n - 2 - s) m) else ft (sz n k) s m + ft (sz n k) (2 * n - 1 - s) m
def lf (n : Int) (k : Bool) (c : Int) : Int := if k then (c - 1) * sz n k + n else c * n
theorem s_oo : ((Str.ofString "once") == (Str.ofString "once")) = true := by decide
theorem s_ot : ((Str.ofString "once") == (Str.ofString "twice")) = false := by decide
theorem s_to : ((Str.ofString "twice") == (Str.ofString "once")) = false := by decide
theorem s_tt : ((Str.ofString "twice") == (Str.ofString "twice")) = true := by decide
theorem is_once (k : Bool) : fEq (kd k) (.str "once") = some k := by cases k <;> simp [kd_t, kd_f, fEq, fit, PyData.eqv, s_oo, s_to]
theorem is_twice (k : Bool) : fEq (kd k) (.str "twice") = some (!k) := by cases k <;> simp [kd_t, kd_f, fEq, fit, PyData.eqv, s_ot, s_tt]
theorem kd_in (k : Bool) : fNotIn false (kd k) cd_KINDS = some false := by
  cases k <;> simp [kd_t, kd_f, fNotIn, fIn, cd_KINDS, fit, fitAll, PyData.eqv, s_oo, s_ot, s_to, s_tt]
/-- a ribbon -/
structure Rb (n : Int) : Prop where
  n2 : 2 ≤ n
  nm : n ≤ 1000000
section
variable {n : Int} {k : Bool}
theorem sz_b (R : Rb n) : 2 ≤ sz n k ∧ n ≤ sz n k ∧ sz n k ≤ 2000000 := by
  have h1 := R.n2
  have h2 := R.nm
  unfold sz
  split <;> omega
theorem scal_kd : scal (kd k) = true := by cases k <;> rfl
theorem check_ok (R : Rb n) : fn_check_ribbon [.int n, kd k] = .ret .none [] := by
  have h1 := R.n2
  have h2 := R.nm
  have h3 := kd_in k
  unfold fn_check_ribbon toFn initE bd_check_ribbon
  generalize kd k = K at *
  simp [inSl, outsOf, ioIx, is_number_int, h1, h2, h3]
theorem round_ok (R : Rb n) : fn_round_of_ribbon [.int n, kd k] = .ret (.int (sz n k)) [] := by
  have h3 := is_once k
  have h4 := check_ok (k := k) R
  have m : mulFits 2 n = true := fits_l (by decide)
  unfold fn_round_of_ribbon toFn initE bd_round_of_ribbon sz
  generalize kd k = K at *
  cases k <;> simp [inSl, outsOf, ioIx, h3, h4, m]
theorem letters_ok {m l : Int} (h : l ≤ m) : fn_check_letters [.int m, .int l] = .ret .none [] := by
  unfold fn_check_letters toFn initE bd_check_letters
  simp [inSl, outsOf, ioIx, is_number_int, h]
  by_cases c : l < m
  · simp [c]
  · have : m = l := by omega
    subst this
    simp
theorem letters_ex {m l : Int} (h : m < l) : fn_check_letters [.int m, .int l] = .ex "OutOfRange" [] := by
  have h2 : ¬ l ≤ m := by omega
  unfold fn_check_letters toFn initE bd_check_letters
  simp [inSl, outsOf, ioIx, is_number_int, h2]
theorem spot_ok (R : Rb n) {t : Int} (h : 0 ≤ t) : fn_spot_of [.int n, kd k, .int t] = .ret (.int (sp n k t)) [] := by
  have h3 := is_once k
  have h4 := round_ok (k := k) R
  have h5 := letters_ok h
  have z := sz_b (k := k) R
  have z0 : 0 < sz n k := by omega
  unfold fn_spot_of toFn initE bd_spot_of sp
  generalize kd k = K at *
  generalize sz n k = y at *
  by_cases c : t % y < n
  · simp [inSl, outsOf, ioIx, h4, h5, z0, c]
  · cases k <;> simp [inSl, outsOf, ioIx, h3, h4, h5, z0, c]
theorem on_ok {s : Int} : fn_letters_on [.int n, kd k, .int s] = .own (.list (if k then (if s = 0 ∨ s = n - 1 then [.int s] else [.int s, .int (2 * n - 2 - s)]) else [.int s, .int (2 * n - 1 - s)])) [] := by
  have h3 := is_twice k
  have m : mulFits 2 n = true := fits_l (by decide)
  have l2 : lineOk 2 = true := lineOk_s (by decide)
  have l1 : lineOk 1 = true := lineOk_s (by decide)
  unfold fn_letters_on toFn initE bd_letters_on
  generalize kd k = K at *
  cases k
  · simp [inSl, outsOf, ioIx, h3, m, l2]
  · by_cases c : s = 0
    · subst c
      simp [inSl, outsOf, ioIx, h3, m, l2, l1, fIn, fit, fitAll, PyData.eqv]
    · have c' : ¬ 0 = s := fun z => c z.symm
      by_cases c2 : s = n - 1
      · subst c2
        simp [inSl, outsOf, ioIx, h3, m, l2, l1, fIn, fit, fitAll, PyData.eqv]
      · have c2' : ¬ n - 1 = s := fun z => c2 z.symm
        simp [inSl, outsOf, ioIx, h3, m, l2, l1, fIn, fit, fitAll, PyData.eqv, c, c2, c', c2', show (0 == s) = false from by simpa using c', show (n - 1 == s) = false from by simpa using c2']
theorem strikes_ok (R : Rb n) {s m : Int} (h0 : 0 ≤ s) (h1 : s < n) (h : 0 ≤ m) : fn_strikes_on [.int n, kd k, .int s, .int m] = .ret (.int (st n k s m)) [] := by
  have h4 := round_ok (k := k) R
  have h5 := letters_ok h
  have h6 := on_ok (n := n) (k := k) (s := s)
  have z := sz_b (k := k) R
  have z0 : divOk (sz n k) = true := divOk_s (by omega) (by omega)
  have h7 : s ≤ n - 1 := by omega
  have l2 : lineOk 2 = true := lineOk_s (by decide)
  have l1 : lineOk 1 = true := lineOk_s (by decide)
  unfold fn_strikes_on toFn initE bd_strikes_on st
  generalize kd k = K at *
  generalize sz n k = y at *
  unfold ft
  cases k
  · simp [inSl, outsOf, ioIx, h4, h5, h6, z0, is_number_int, h0, h7, forF, l2]
    by_cases c1 : s < m <;> by_cases c2 : 2 * n - 1 - s < m <;> simp [c1, c2, z0]
  · by_cases c : s = 0 ∨ s = n - 1
    · rw [if_pos rfl, if_pos c] at h6
      simp only [if_true, if_pos c]
      simp [inSl, outsOf, ioIx, h4, h5, h6, z0, is_number_int, h0, h7, forF, l1]
      by_cases c1 : s < m <;> simp [c1, z0]
    · rw [if_pos rfl, if_neg c] at h6
      simp only [if_true, if_neg c]
      simp [inSl, outsOf, ioIx, h4, h5, h6, z0, is_number_int, h0, h7, forF, l2]
      by_cases c1 : s < m <;> by_cases c2 : 2 * n - 2 - s < m <;> simp [c1, c2, z0]
theorem for_ok (R : Rb n) {c : Int} (h : 1 ≤ c) : fn_letters_for [.int n, kd k, .int c] = .ret (.int (lf n k c)) [] := by
  have h3 := is_once k
  have h4 := round_ok (k := k) R
  have h5 := letters_ok h
  have z := sz_b (k := k) R
  have m1 : mulFits (c - 1) (sz n k) = true := fits_r (by omega)
  have m2 : mulFits c n = true := fits_r (by have := R.n2; have := R.nm; omega)
  unfold fn_letters_for toFn initE bd_letters_for lf
  generalize kd k = K at *
  generalize sz n k = y at *
  cases k <;> simp [inSl, outsOf, ioIx, h3, h4, h5, m1, m2]
end
end K77
end
section
set_option Elab.async false
set_option linter.all false
set_option maxRecDepth 100000
set_option maxHeartbeats 4000000
namespace K77
open PySem L2 Pd
section
variable {n : Int} {k : Bool} {a b : Int}
theorem told0 (R : Rb n) : fn__law_told [.int 0, .int n, kd k, .int a, .int b] = .ret (.int (sz n k)) [] := by
  have h := round_ok (k := k) R
  unfold fn__law_told toFn initE bd__law_told
  generalize kd k = K at *
  simp [inSl, outsOf, ioIx, h]
theorem told1 (R : Rb n) (ha : 0 ≤ a) : fn__law_told [.int 1, .int n, kd k, .int a, .int b] = .ret (.int (sp n k a)) [] := by
  have h := spot_ok (k := k) R ha
  unfold fn__law_told toFn initE bd__law_told
  generalize kd k = K at *
  simp [inSl, outsOf, ioIx, h]
theorem told2 (R : Rb n) (h0 : 0 ≤ a) (h1 : a < n) (hb : 0 ≤ b) : fn__law_told [.int 2, .int n, kd k, .int a, .int b] = .ret (.int (st n k a b)) [] := by
  have h := strikes_ok (k := k) R h0 h1 hb
  unfold fn__law_told toFn initE bd__law_told
  generalize kd k = K at *
  simp [inSl, outsOf, ioIx, h]
theorem told3 (R : Rb n) (ha : 1 ≤ a) : fn__law_told [.int 3, .int n, kd k, .int a, .int b] = .ret (.int (lf n k a)) [] := by
  have h := for_ok (k := k) R ha
  unfold fn__law_told toFn initE bd__law_told
  generalize kd k = K at *
  simp [inSl, outsOf, ioIx, h]
/-! ### errors -/
theorem check_n {K : D} (h : n < 2 ∨ 1000000 < n) : fn_check_ribbon [.int n, K] = .ex "OutOfRange" [] := by
  unfold fn_check_ribbon toFn initE bd_check_ribbon
  by_cases c : 2 ≤ n
  · have c2 : ¬ n ≤ 1000000 := by omega
    simp [inSl, outsOf, ioIx, is_number_int, c, c2]
  · simp [inSl, outsOf, ioIx, is_number_int, c]
theorem check_kind {K : D} (R : Rb n) (h : fNotIn false K cd_KINDS = some true) : fn_check_ribbon [.int n, K] = .ex "NotThere" [] := by
  have h1 := R.n2
  have h2 := R.nm
  unfold fn_check_ribbon toFn initE bd_check_ribbon
  simp [inSl, outsOf, ioIx, is_number_int, h1, h2, h]
section
variable {K : D} {c : String}
theorem round_ex (h : fn_check_ribbon [.int n, K] = .ex c []) : fn_round_of_ribbon [.int n, K] = .ex c [] := by
  unfold fn_round_of_ribbon toFn initE bd_round_of_ribbon
  simp [inSl, outsOf, ioIx, h]
theorem told_ex {w : Int} (h : fn_check_ribbon [.int n, K] = .ex c []) (hw : w = 0 ∨ w = 1 ∨ w = 2 ∨ w = 3) {x : Str} (hc : kn c = true ∧ isE c "PrintError" = true) (hx : fn__law_word c = .ret (.str x) []) : fn__law_told [.int w, .int n, K, .int a, .int b] = .ret (.str x) [] := by
  have h2 := round_ex h
  have h3 : fn_spot_of [.int n, K, .int a] = .ex c [] := by
    unfold fn_spot_of toFn initE bd_spot_of
    simp [inSl, outsOf, ioIx, h2]
  have h4 : fn_strikes_on [.int n, K, .int a, .int b] = .ex c [] := by
    unfold fn_strikes_on toFn initE bd_strikes_on
    simp [inSl, outsOf, ioIx, h2]
  have h5 : fn_letters_for [.int n, K, .int a] = .ex c [] := by
    unfold fn_letters_for toFn initE bd_letters_for
    simp [inSl, outsOf, ioIx, h2]
  have km_ : km "PrintError" = true := by decide
  unfold fn__law_told toFn initE bd__law_told
  rcases hw with rfl | rfl | rfl | rfl <;> simp [inSl, outsOf, ioIx, h2, h3, h4, h5, hc.1, hc.2, km_, hx]
end
theorem rng_e : kn "OutOfRange" = true ∧ isE "OutOfRange" "PrintError" = true := by decide
theorem non_e : kn "NotThere" = true ∧ isE "NotThere" "PrintError" = true := by decide
theorem told_n {w : Int} {K : D} (h : n < 2 ∨ 1000000 < n) (hw : w = 0 ∨ w = 1 ∨ w = 2 ∨ w = 3) : fn__law_told [.int w, .int n, K, .int a, .int b] = .ret (.str "range") [] := told_ex (check_n h) hw rng_e word_range
theorem told_kind {w : Int} {K : D} (R : Rb n) (h : fNotIn false K cd_KINDS = some true) (hw : w = 0 ∨ w = 1 ∨ w = 2 ∨ w = 3) : fn__law_told [.int w, .int n, K, .int a, .int b] = .ret (.str "none") [] := told_ex (check_kind R h) hw non_e word_none
theorem told1_ex (R : Rb n) (ha : a < 0) : fn__law_told [.int 1, .int n, kd k, .int a, .int b] = .ret (.str "range") [] := by
  have h1 := round_ok (k := k) R
  have h2 := letters_ex ha
  have km_ : km "PrintError" = true := by decide
  unfold fn__law_told toFn initE bd__law_told
  generalize kd k = K at *
  have h3 : fn_spot_of [.int n, K, .int a] = .ex "OutOfRange" [] := by
    unfold fn_spot_of toFn initE bd_spot_of
    simp [inSl, outsOf, ioIx, h1, h2]
  simp [inSl, outsOf, ioIx, h3, rng_e, km_, word_range]
theorem told2_ex (R : Rb n) (h0 : 0 ≤ a) (ha : a < n) (hb : b < 0) : fn__law_told [.int 2, .int n, kd k, .int a, .int b] = .ret (.str "range") [] := by
  have h1 := round_ok (k := k) R
  have h2 := letters_ex hb
  have km_ : km "PrintError" = true := by decide
  have h4 : a ≤ n - 1 := by omega
  unfold fn__law_told toFn initE bd__law_told
  generalize kd k = K at *
  have h3 : fn_strikes_on [.int n, K, .int a, .int b] = .ex "OutOfRange" [] := by
    unfold fn_strikes_on toFn initE bd_strikes_on
    simp [inSl, outsOf, ioIx, h1, h2, is_number_int, h0, h4]
  simp [inSl, outsOf, ioIx, h3, rng_e, km_, word_range]
theorem told2_none (R : Rb n) (ha : a < 0 ∨ n ≤ a) : fn__law_told [.int 2, .int n, kd k, .int a, .int b] = .ret (.str "none") [] := by
  have h1 := round_ok (k := k) R
  have km_ : km "PrintError" = true := by decide
  unfold fn__law_told toFn initE bd__law_told
  generalize kd k = K at *
  have h3 : fn_strikes_on [.int n, K, .int a, .int b] = .ex "NotThere" [] := by
    unfold fn_strikes_on toFn initE bd_strikes_on
    by_cases c : 0 ≤ a
    · have c2 : ¬ a ≤ n - 1 := by omega
      simp [inSl, outsOf, ioIx, h1, is_number_int, c, c2]
    · simp [inSl, outsOf, ioIx, h1, is_number_int, c]
  simp [inSl, outsOf, ioIx, h3, non_e, km_, word_none]
theorem told3_ex (R : Rb n) (ha : a < 1) : fn__law_told [.int 3, .int n, kd k, .int a, .int b] = .ret (.str "range") [] := by
  have h1 := round_ok (k := k) R
  have h2 := letters_ex ha
  have km_ : km "PrintError" = true := by decide
  unfold fn__law_told toFn initE bd__law_told
  generalize kd k = K at *
  have h3 : fn_letters_for [.int n, K, .int a] = .ex "OutOfRange" [] := by
    unfold fn_letters_for toFn initE bd_letters_for
    simp [inSl, outsOf, ioIx, h1, h2]
  simp [inSl, outsOf, ioIx, h3, rng_e, km_, word_range]
/-! ### the walk -/
theorem emod_succ {t z : Int} (hz : 0 < z) : ((t + 1) % z = if t % z + 1 = z then 0 else t % z + 1) ∧ ((t + 1) / z = if t % z + 1 = z then t / z + 1 else t / z) := by
  have a := Int.emod_add_mul_ediv t z
  have b := Int.emod_nonneg t (by omega : z ≠ 0)
  have c := Int.emod_lt_of_pos t hz
  split
  · have : (t + 1) / z = t / z + 1 ∧ (t + 1) % z = 0 := by
      rw [Int.ediv_emod_unique hz, Int.mul_add]
      omega
    exact ⟨this.2, this.1⟩
  · have : (t + 1) / z = t / z ∧ (t + 1) % z = t % z + 1 := by
      rw [Int.ediv_emod_unique hz]
      omega
    exact ⟨this.2, this.1⟩
def Way (n : Int) (k : Bool) (t w : Int) : Prop := (w = 1 ∧ t % sz n k < n) ∨ (w = -1 ∧ (n ≤ t % sz n k ∨ (k = true ∧ t % sz n k = 0)))
theorem sp_b (R : Rb n) (t : Int) : 0 ≤ sp n k t ∧ sp n k t < n := by
  have h1 := R.n2
  have z := sz_b (k := k) R
  have b := Int.emod_nonneg t (by omega : sz n k ≠ 0)
  have c := Int.emod_lt_of_pos t (by omega : 0 < sz n k)
  unfold sp
  generalize t % sz n k = r at *
  unfold sz at *
  cases k <;> simp at * <;> split <;> omega
theorem walk_step (R : Rb n) {t w : Int} (h : Way n k t w) :
    (0 ≤ sp n k t + w ∧ sp n k t + w < n ∧ sp n k (t + 1) = sp n k t + w ∧ Way n k (t + 1) w) ∨
    (¬ (0 ≤ sp n k t + w ∧ sp n k t + w < n) ∧ sp n k (t + 1) = (if k then sp n k t + (0 - w) else sp n k t) ∧ Way n k (t + 1) (0 - w)) := by
  have h1 := R.n2
  have z := sz_b (k := k) R
  have b := Int.emod_nonneg t (by omega : sz n k ≠ 0)
  have c := Int.emod_lt_of_pos t (by omega : 0 < sz n k)
  have s := (emod_succ (t := t) (by omega : 0 < sz n k)).1
  unfold Way sp at *
  rw [s]
  generalize t % sz n k = r at *
  unfold sz at *
  cases k
  · simp at *
    by_cases c1 : r < n <;> by_cases c2 : r + 1 = 2 * n <;> by_cases c3 : r + 1 < n <;> simp [c1, c2, c3] <;> omega
  · simp at *
    by_cases c1 : r < n <;> by_cases c2 : r + 1 = 2 * n - 2 <;> by_cases c3 : r + 1 < n <;> simp [c1, c2, c3] <;> omega
def wl (n : Int) (k : Bool) (m : Nat) : List D := (List.range m).map fun t : Nat => PyData.int (sp n k t)
theorem wl_len {m : Nat} : (wl n k m).length = m := by simp [wl]
theorem wl_succ {m : Nat} : wl n k (m + 1) = wl n k m ++ [.int (sp n k m)] := by
  unfold wl
  rw [List.range_succ, List.map_append]
  rfl
theorem wl_i {m : Nat} {i : Int} (h0 : 0 ≤ i) (h : i < m) : atI (wl n k m) i = some (.int (sp n k i)) := by
  have : (wl n k m)[i.toNat]? = some (.int (sp n k i.toNat)) := by
    unfold wl
    rw [List.getElem?_map, List.getElem?_range (by omega)]
    rfl
  have := atI_i h0 this
  rw [Int.toNat_of_nonneg h0] at this
  exact this
theorem walk_ok (R : Rb n) {m : Int} (h0 : 0 ≤ m) (hm : m ≤ 10000000) : fn__law_walk [.int n, kd k, .int m] = .own (.list (wl n k m.toNat)) [] := by
  have ho := is_once k
  have l := forF_at (g := tgN 4) (S := (sSeq (sDrop (eMet "list" 3 mAppend (aCons (eVar 5) (aNil)))) (sIf (eChain fLe fLt (eC (.int 0)) (eOp fAdd (eVar 5) (eVar 6)) (eVar 0)) (sSet 5 (eOp fAdd (eVar 5) (eVar 6))) (sSeq (sSet 6 (eOp fSub (eC (.int 0)) (eVar 6))) (sSet 5 (eIf (eOpT fEq (eVar 1) (eC (.str "once"))) (eOp fAdd (eVar 5) (eVar 6)) (eVar 5))))))) (ds := rngD 0 m.toNat)
    (fun i ρ => ∃ s4 w, Way n k i w ∧ ρ = [.v (.int n), .v (kd k), .v (.int m), .o (.list (wl n k i)), s4, .v (.int (sp n k i)), .v (.int w)]) (by
    rintro i x hx ρ ⟨s4, w, hw, rfl⟩
    have hi := get_lt hx
    rw [rngD_len] at hi
    have ln : lineOk (i + 1) = true := lineOk_s (by omega)
    rcases walk_step R hw with ⟨h1, h2, h3, h4⟩ | ⟨h1, h2, h3⟩
    · refine ⟨_, [.v (.int n), .v (kd k), .v (.int m), .o (.list (wl n k (i + 1))), .v x, .v (.int (sp n k ((i + 1 : Nat) : Int))), .v (.int w)], rfl, .inl ?_, _, _, h4, rfl⟩
      generalize kd k = K at *
      have e : ((i + 1 : Nat) : Int) = (i : Int) + 1 := rfl
      rw [wl_succ, e, h3]
      simp [mAppend, wl_len, ln, h1, h2]
    · refine ⟨_, [.v (.int n), .v (kd k), .v (.int m), .o (.list (wl n k (i + 1))), .v x, .v (.int (sp n k ((i + 1 : Nat) : Int))), .v (.int (0 - w))], rfl, .inl ?_, _, _, h3, rfl⟩
      have e : ((i + 1 : Nat) : Int) = (i : Int) + 1 := rfl
      rw [wl_succ, e, h2]
      generalize kd k = K at *
      by_cases c1 : 0 ≤ sp n k i + w
      · have c2 : ¬ sp n k i + w < n := fun z => h1 ⟨c1, z⟩
        cases k <;> simp [mAppend, wl_len, ln, c1, c2, ho]
      · cases k <;> simp [mAppend, wl_len, ln, c1, ho]) (ρ := [.v (.int n), .v (kd k), .v (.int m), .o (.list []), .u, .v (.int 0), .v (.int 1)]) ⟨.u, 1, .inl ⟨rfl, by have := R.n2; have z := sz_b (k := k) R; simp; omega⟩, by
        have h2 := R.n2
        simp [wl, sp]
        omega⟩
  obtain ⟨ρ', h1, s4, w, hw, rfl⟩ := l
  rw [rngD_len] at h1
  have rg : rngOk m = true := rngOk_s (by omega) (by omega)
  unfold fn__law_walk toFn initE bd__law_walk
  generalize kd k = K at *
  simp [inSl, outsOf, ioIx, rg]
  rw [h1]
  simp
end
end K77
end
section
set_option Elab.async false
set_option linter.all false
set_option maxRecDepth 100000
set_option maxHeartbeats 4000000
namespace K77
open PySem L2 Pd
section
variable {n : Int} {k : Bool} {z f m c s : Int}
theorem sz_f : sz n false = 2 * n := rfl
theorem sz_t : sz n true = 2 * n - 2 := rfl
/-- the count in closed form -/
theorem ft_eq (hz : 0 < z) (h0 : 0 ≤ f) (h1 : f < z) (hm : 0 ≤ m) : ft z f m = (m + (z - 1 - f)) / z := by
  unfold ft
  split
  · have : m + (z - 1 - f) = m - f - 1 + 1 * z := by omega
    rw [this, Int.add_mul_ediv_right _ _ (by omega)]
  · rw [Int.ediv_eq_zero_of_lt (by omega) (by omega)]
theorem ft_zero (h0 : 0 ≤ f) : ft z f 0 = 0 := by
  unfold ft
  rw [if_neg (by omega)]
theorem ft_nn (hz : 0 < z) (hm : 0 ≤ m) : 0 ≤ ft z f m := by
  unfold ft
  split
  · have := Int.ediv_nonneg (by omega : 0 ≤ m - f - 1) (by omega : 0 ≤ z)
    omega
  · exact Int.le_refl _
theorem ft_succ (hz : 0 < z) (h0 : 0 ≤ f) (h1 : f < z) (hm : 0 ≤ m) : ft z f (m + 1) = ft z f m + if m % z = f then 1 else 0 := by
  rw [ft_eq hz h0 h1 hm, ft_eq hz h0 h1 (by omega)]
  have e : m + 1 + (z - 1 - f) = m + (z - 1 - f) + 1 := by omega
  rw [e, (emod_succ hz).2]
  have b := Int.emod_nonneg m (by omega : z ≠ 0)
  have c := Int.emod_lt_of_pos m hz
  have a := Int.emod_add_mul_ediv m z
  have r : (m + (z - 1 - f)) % z = if m % z ≤ f then m % z + (z - 1 - f) else m % z - 1 - f := by
    split
    · have : (m + (z - 1 - f)) / z = m / z ∧ (m + (z - 1 - f)) % z = m % z + (z - 1 - f) := by
        rw [Int.ediv_emod_unique hz]
        omega
      exact this.2
    · have : (m + (z - 1 - f)) / z = m / z + 1 ∧ (m + (z - 1 - f)) % z = m % z - 1 - f := by
        rw [Int.ediv_emod_unique hz, Int.mul_add]
        omega
      exact this.2
  rw [r]
  by_cases c1 : m % z = f
  · have c2 : m % z ≤ f := by omega
    have c3 : m % z + (z - 1 - f) + 1 = z := by omega
    rw [if_pos c2, if_pos c3, if_pos c1]
  · rw [if_neg c1]
    split <;> (rw [if_neg (by omega)]; omega)
theorem ft_add (hz : 0 < z) (h0 : 0 ≤ f) (h1 : f < z) (hm : 0 ≤ m) (hc : 0 ≤ c) : ft z f (m + c * z) = ft z f m + c := by
  rw [ft_eq hz h0 h1 hm, ft_eq hz h0 h1 (by have := Int.mul_nonneg hc (by omega : 0 ≤ z); omega)]
  have e : m + c * z + (z - 1 - f) = m + (z - 1 - f) + c * z := by omega
  rw [e, Int.add_mul_ediv_right _ _ (by omega)]
theorem ft_ge (hz : 0 < z) (h0 : 0 ≤ f) (h1 : f < z) (hm : 0 ≤ m) : c ≤ ft z f m ↔ f + (c - 1) * z < m := by
  rw [ft_eq hz h0 h1 hm, Int.le_ediv_iff_mul_le hz, Int.sub_mul, Int.one_mul]
  omega
theorem ft_mono {g : Int} (hz : 0 < z) (h0 : 0 ≤ f) (hg : f ≤ g) (h1 : g < z) (hm : 0 ≤ m) : ft z g m ≤ ft z f m := by
  rw [ft_eq hz h0 (by omega) hm, ft_eq hz (by omega) h1 hm]
  exact Int.ediv_le_ediv hz (by omega)
/-- as often as it is struck -/
theorem st_succ (R : Rb n) (h0 : 0 ≤ s) (h1 : s < n) (hm : 0 ≤ m) : st n k s (m + 1) = st n k s m + if sp n k m = s then 1 else 0 := by
  have h2 := R.n2
  have z := sz_b (k := k) R
  have z0 : 0 < sz n k := by omega
  have b := Int.emod_nonneg m (by omega : sz n k ≠ 0)
  have c := Int.emod_lt_of_pos m z0
  unfold st sp
  cases k
  · skip
    simp only [sz_f, sz_t] at *
    simp only [Bool.false_eq_true, if_false]
    rw [ft_succ z0 h0 (by omega) hm, ft_succ z0 (by omega) (by omega) hm]
    generalize m % (2 * n) = r at *
    by_cases c1 : r = s
    · rw [if_pos c1, if_neg (by omega), if_pos (by split <;> omega)]
      omega
    · rw [if_neg c1]
      by_cases c2 : r = 2 * n - 1 - s
      · rw [if_pos c2, if_pos (by split <;> omega)]
        omega
      · rw [if_neg c2, if_neg (by split <;> omega)]
        omega
  · skip
    simp only [sz_f, sz_t] at *
    simp only [if_true]
    by_cases c0 : s = 0 ∨ s = n - 1
    · rw [if_pos c0, if_pos c0, ft_succ z0 h0 (by omega) hm]
      generalize m % (2 * n - 2) = r at *
      by_cases c1 : r = s
      · rw [if_pos c1, if_pos (by split <;> omega)]
      · rw [if_neg c1, if_neg (by split <;> omega)]
    · rw [if_neg c0, if_neg c0, ft_succ z0 h0 (by omega) hm, ft_succ z0 (by omega) (by omega) hm]
      generalize m % (2 * n - 2) = r at *
      by_cases c1 : r = s
      · rw [if_pos c1, if_neg (by omega), if_pos (by split <;> omega)]
        omega
      · rw [if_neg c1]
        by_cases c2 : r = 2 * n - 2 - s
        · rw [if_pos c2, if_pos (by split <;> omega)]
          omega
        · rw [if_neg c2, if_neg (by split <;> omega)]
          omega
theorem st_zero (R : Rb n) (h0 : 0 ≤ s) (h1 : s < n) : st n k s 0 = 0 := by
  have h2 := R.n2
  unfold st
  split
  · split
    · exact ft_zero h0
    · rw [ft_zero h0, ft_zero (by omega)]
      rfl
  · rw [ft_zero h0, ft_zero (by omega)]
    rfl
theorem st_count (R : Rb n) (h0 : 0 ≤ s) (h1 : s < n) : ∀ M : Nat, (((List.range M).filter fun t : Nat => decide (sp n k t = s)).length : Int) = st n k s M
  | 0 => by rw [show ((0 : Nat) : Int) = 0 from rfl, st_zero R h0 h1]; rfl
  | M + 1 => by
    have e : ((M + 1 : Nat) : Int) = (M : Int) + 1 := rfl
    rw [e, st_succ R h0 h1 (by omega), List.range_succ, List.filter_append, List.length_append, Int.natCast_add, st_count R h0 h1 M]
    by_cases c : sp n k M = s <;> simp [c]
theorem st_add (R : Rb n) (h0 : 0 ≤ s) (h1 : s < n) (hm : 0 ≤ m) (hc : 0 ≤ c) : st n k s (m + c * sz n k) = st n k s m + c * st n k s (sz n k) := by
  have h2 := R.n2
  have z := sz_b (k := k) R
  have z0 : 0 < sz n k := by omega
  have one : ∀ f, 0 ≤ f → f < sz n k → ft (sz n k) f (sz n k) = 1 := fun f g0 g1 => by
    have := ft_add (m := 0) (c := 1) z0 g0 g1 (Int.le_refl _) (by decide)
    rw [ft_zero g0] at this
    rw [show (0 : Int) + 1 * sz n k = sz n k by omega] at this
    exact this
  unfold st
  cases k
  · skip
    simp only [Bool.false_eq_true, if_false]
    simp only [sz_f, sz_t] at *
    rw [ft_add z0 h0 (by omega) hm hc, ft_add z0 (by omega) (by omega) hm hc, one _ h0 (by omega), one _ (by omega) (by omega), Int.mul_add]
    omega
  · skip
    simp only [if_true]
    simp only [sz_f, sz_t] at *
    by_cases c0 : s = 0 ∨ s = n - 1
    · rw [if_pos c0, if_pos c0, if_pos c0, ft_add z0 h0 (by omega) hm hc, one _ h0 (by omega)]
      omega
    · rw [if_neg c0, if_neg c0, if_neg c0, ft_add z0 h0 (by omega) hm hc, ft_add z0 (by omega) (by omega) hm hc, one _ h0 (by omega), one _ (by omega) (by omega), Int.mul_add]
      omega
/-- whole rounds -/
theorem st_whole (R : Rb n) (h0 : 0 ≤ s) (h1 : s < n) (hc : 0 ≤ c) : st n k s (c * sz n k) = if k = true ∧ (s = 0 ∨ s = n - 1) then c else 2 * c := by
  have h2 := R.n2
  have z := sz_b (k := k) R
  have z0 : 0 < sz n k := by omega
  have one : ∀ f, 0 ≤ f → f < sz n k → ft (sz n k) f (c * sz n k) = c := fun f g0 g1 => by
    have := ft_add (m := 0) (c := c) z0 g0 g1 (Int.le_refl _) hc
    rw [ft_zero g0, Int.zero_add, Int.zero_add] at this
    exact this
  unfold st
  cases k
  · skip
    simp only [Bool.false_eq_true, if_false, false_and]
    simp only [sz_f, sz_t] at *
    rw [one _ h0 (by omega), one _ (by omega) (by omega)]
    omega
  · skip
    simp only [if_true, true_and]
    simp only [sz_f, sz_t] at *
    by_cases c0 : s = 0 ∨ s = n - 1
    · rw [if_pos c0, if_pos c0, one _ h0 (by omega)]
    · rw [if_neg c0, if_neg c0, one _ h0 (by omega), one _ (by omega) (by omega)]
      omega
theorem half (c : Int) : c = 2 * (c / 2) ∨ c = 2 * (c / 2) + 1 := by omega
theorem st_nn (R : Rb n) (hm : 0 ≤ m) : 0 ≤ st n k s m := by
  have h2 := R.n2
  have z := sz_b (k := k) R
  have z0 : 0 < sz n k := by omega
  have a := ft_nn (f := s) z0 hm
  have b := ft_nn (f := 2 * n - 2 - s) z0 hm
  have d := ft_nn (f := 2 * n - 1 - s) z0 hm
  unfold st
  split
  · split <;> omega
  · omega
theorem lf_b (R : Rb n) (h : 1 ≤ c) : 1 ≤ lf n k c := by
  have h2 := R.n2
  have z := sz_b (k := k) R
  unfold lf
  split
  · have := Int.mul_nonneg (by omega : 0 ≤ c - 1) (by omega : 0 ≤ sz n k)
    omega
  · have := Int.mul_le_mul h h2 (by decide) (by omega)
    omega
/-- the least number of letters: seen at the two ends -/
theorem lf_ends (R : Rb n) (hc : 1 ≤ c) (hm : 0 ≤ m) (a : c ≤ st n k 0 m) (b : c ≤ st n k (n - 1) m) : lf n k c ≤ m := by
  have h2 := R.n2
  have z := sz_b (k := k) R
  have z0 : 0 < sz n k := by omega
  unfold lf
  unfold st at a b
  cases k
  · skip
    simp only [Bool.false_eq_true, if_false] at a b ⊢
    simp only [sz_f, sz_t] at *
    rcases half c with hh | hh
    · have m1 := ft_ge (z := 2 * n) (f := 2 * n - 1) (m := m) (c := c / 2) z0 (by omega) (by omega) hm
      have e0 : ft (2 * n) 0 m ≤ ft (2 * n) (2 * n - 1) m + 1 := by
        rw [ft_eq z0 (by omega) (by omega) hm, ft_eq z0 (by omega) (by omega) hm]
        have : m + (2 * n - 1 - 0) ≤ m + (2 * n - 1 - (2 * n - 1)) + 1 * (2 * n) := by omega
        have := Int.ediv_le_ediv z0 this
        rw [Int.add_mul_ediv_right _ _ (by omega)] at this
        exact this
      rw [show 2 * n - 1 - 0 = 2 * n - 1 by omega] at a
      have m2 := m1.mp (by omega)
      rw [Int.sub_mul, Int.one_mul] at m2
      generalize c / 2 = j at *
      subst hh
      rw [show 2 * j * n = j * (2 * n) by rw [Int.mul_comm 2 j, Int.mul_assoc]]
      omega
    · have m1 := ft_ge (z := 2 * n) (f := n - 1) (m := m) (c := c / 2 + 1) z0 (by omega) (by omega) hm
      have e0 := ft_mono (z := 2 * n) (f := n - 1) (g := n) (m := m) z0 (by omega) (by omega) (by omega) hm
      rw [show 2 * n - 1 - (n - 1) = n by omega] at b
      have m2 := m1.mp (by omega)
      rw [show c / 2 + 1 - 1 = c / 2 by omega] at m2
      generalize c / 2 = j at *
      subst hh
      rw [show (2 * j + 1) * n = j * (2 * n) + n by rw [Int.add_mul, Int.one_mul, Int.mul_comm 2 j, Int.mul_assoc]]
      omega
  · skip
    simp only [if_true] at a b ⊢
    simp only [sz_f, sz_t] at *
    rw [if_pos (.inr trivial)] at b
    have m1 := (ft_ge (c := c) z0 (by omega : 0 ≤ n - 1) (by omega) hm).mp b
    omega
theorem lf_all (R : Rb n) (hc : 1 ≤ c) (hm : 0 ≤ m) (h : lf n k c ≤ m) (h0 : 0 ≤ s) (h1 : s < n) : c ≤ st n k s m := by
  have h2 := R.n2
  have z := sz_b (k := k) R
  have z0 : 0 < sz n k := by omega
  unfold lf at h
  unfold st
  cases k
  · skip
    simp only [Bool.false_eq_true, if_false] at h ⊢
    simp only [sz_f, sz_t] at *
    rcases half c with hh | hh
    · generalize c / 2 = j at *
      subst hh
      rw [show 2 * j * n = j * (2 * n) by rw [Int.mul_comm 2 j, Int.mul_assoc]] at h
      have a := (ft_ge (z := 2 * n) (f := s) (m := m) (c := j) z0 h0 (by omega) hm).mpr (by rw [Int.sub_mul, Int.one_mul]; omega)
      have b := (ft_ge (z := 2 * n) (f := 2 * n - 1 - s) (m := m) (c := j) z0 (by omega) (by omega) hm).mpr (by rw [Int.sub_mul, Int.one_mul]; omega)
      omega
    · generalize c / 2 = j at *
      subst hh
      rw [show (2 * j + 1) * n = j * (2 * n) + n by rw [Int.add_mul, Int.one_mul, Int.mul_comm 2 j, Int.mul_assoc]] at h
      have a := (ft_ge (z := 2 * n) (f := s) (m := m) (c := j + 1) z0 h0 (by omega) hm).mpr (by rw [show j + 1 - 1 = j by omega]; omega)
      have b := (ft_ge (z := 2 * n) (f := 2 * n - 1 - s) (m := m) (c := j) z0 (by omega) (by omega) hm).mpr (by rw [Int.sub_mul, Int.one_mul]; omega)
      omega
  · skip
    simp only [if_true] at h ⊢
    simp only [sz_f, sz_t] at *
    have a := (ft_ge (c := c) z0 h0 (by omega) hm).mpr (by omega)
    have b := ft_nn (f := 2 * n - 2 - s) z0 hm
    split <;> omega
/-- twice: behind whole ways each spot alike -/
theorem st_exact (R : Rb n) (hc : 0 ≤ c) (h0 : 0 ≤ s) (h1 : s < n) : st n false s (c * n) = c := by
  have h2 := R.n2
  have z0 : 0 < 2 * n := by omega
  skip
  unfold st
  simp only [Bool.false_eq_true, if_false]
  simp only [sz_f]
  rcases half c with hh | hh
  · have hj : 0 ≤ c / 2 := by omega
    generalize c / 2 = j at *
    subst hh
    rw [show 2 * j * n = 0 + j * (2 * n) by rw [Int.mul_comm 2 j, Int.mul_assoc]; omega]
    rw [ft_add z0 h0 (by omega) (Int.le_refl _) hj, ft_add z0 (by omega) (by omega) (Int.le_refl _) hj, ft_zero h0, ft_zero (by omega)]
    omega
  · have hj : 0 ≤ c / 2 := by omega
    generalize c / 2 = j at *
    subst hh
    rw [show (2 * j + 1) * n = n + j * (2 * n) by rw [Int.add_mul, Int.one_mul, Int.mul_comm 2 j, Int.mul_assoc]; omega]
    rw [ft_add z0 h0 (by omega) (by omega) hj, ft_add z0 (by omega) (by omega) (by omega) hj]
    have a : ft (2 * n) s n = 1 := by
      unfold ft
      rw [if_pos h1, Int.ediv_eq_zero_of_lt (by omega) (by omega)]
      rfl
    have b : ft (2 * n) (2 * n - 1 - s) n = 0 := by
      unfold ft
      rw [if_neg (by omega)]
    omega
theorem st_mono (R : Rb n) (h0 : 0 ≤ s) (h1 : s < n) (hm : 0 ≤ m) : ∀ d : Nat, st n k s m ≤ st n k s (m + d)
  | 0 => by simp
  | d + 1 => by
    have := st_mono R h0 h1 hm d
    have e : m + ((d + 1 : Nat) : Int) = m + d + 1 := by omega
    rw [e, st_succ R h0 h1 (by omega)]
    split <;> omega
/-- twice: all spots alike but for one -/
theorem st_alike (R : Rb n) {u : Int} (hm : 0 ≤ m) (h0 : 0 ≤ s) (h1 : s < n) (h2 : 0 ≤ u) (h3 : u < n) : st n false s m - st n false u m ≤ 1 := by
  have hn := R.n2
  have q0 : 0 ≤ m / n := Int.ediv_nonneg hm (by omega)
  have a := Int.emod_add_mul_ediv m n
  have b := Int.emod_nonneg m (by omega : n ≠ 0)
  have c := Int.emod_lt_of_pos m (by omega : 0 < n)
  rw [Int.mul_comm] at a
  have p0 : 0 ≤ m / n * n := Int.mul_nonneg q0 (by omega)
  have lo : st n false u (m / n * n) = m / n := st_exact R q0 h2 h3
  have hi : st n false s ((m / n + 1) * n) = m / n + 1 := st_exact R (by omega) h0 h1
  have l2 := st_mono (k := false) R h2 h3 p0 (m % n).toNat
  rw [Int.toNat_of_nonneg b, show m / n * n + m % n = m by omega] at l2
  have l3 := st_mono (k := false) R h0 h1 hm (n - m % n).toNat
  rw [Int.toNat_of_nonneg (by omega), show m + (n - m % n) = (m / n + 1) * n by rw [Int.add_mul, Int.one_mul]; omega] at l3
  omega
/-- once: the last spot is struck just so often -/
theorem st_last (R : Rb n) (hc : 1 ≤ c) : st n k (n - 1) (lf n k c) = c := by
  have h2 := R.n2
  cases k
  · exact st_exact R (by omega) (by omega) (by omega)
  · skip
    have z0 : 0 < 2 * n - 2 := by omega
    unfold st lf
    simp only [if_true]
    simp only [sz_t]
    rw [if_pos (.inr trivial), Int.add_comm, ft_add z0 (by omega) (by omega) (by omega) (by omega)]
    unfold ft
    rw [if_pos (by omega), Int.ediv_eq_zero_of_lt (by omega) (by omega)]
    omega
/-- the round is no shorter -/
theorem no_less (R : Rb n) {p : Int} (h1 : 1 ≤ p) (h2 : p < sz n k) : sp n k p ≠ sp n k 0 ∨ sp n k (p + 1) ≠ sp n k 1 := by
  have hn := R.n2
  have z := sz_b (k := k) R
  have z0 : 0 < sz n k := by omega
  have a : p % sz n k = p := Int.emod_eq_of_lt (by omega) h2
  have b := (emod_succ (t := p) z0).1
  have c : (1 : Int) % sz n k = 1 := Int.emod_eq_of_lt (by decide) (by omega)
  rw [a] at b
  unfold sp
  rw [a, b, c]
  unfold sz at *
  cases k
  · simp at *
    by_cases c1 : p < n <;> by_cases c2 : p + 1 = 2 * n <;> by_cases c3 : p + 1 < n <;> by_cases c4 : 1 < n <;> simp [c1, c2, c3, c4] <;> omega
  · simp at *
    by_cases c1 : p < n <;> by_cases c2 : p + 1 = 2 * n - 2 <;> by_cases c3 : p + 1 < n <;> by_cases c4 : 1 < n <;> simp [c1, c2, c3, c4] <;> omega
theorem sp_round {t : Int} : sp n k (t + sz n k) = sp n k t := by
  unfold sp
  rw [Int.add_emod_right]
theorem sp_emod {t : Int} : sp n k (t % sz n k) = sp n k t := by
  unfold sp
  rw [Int.emod_emod]
end
end K77
end
section
set_option Elab.async false
set_option linter.all false
set_option maxRecDepth 100000
set_option maxHeartbeats 4000000
namespace K77
open PySem L2 Pd
noncomputable abbrev L0 : Sv := sSet 1 (eCall 1 fn__law_draws (aCons (eVar 0) (aNil)))
noncomputable abbrev L1 : Sv := sSet 2 (eOp fAdd (eC (.int 2)) (eCallM [true, false] fn__law_take (aCons (eVar 1) (aCons (eOp (fIx false) (eLst (aCons (eC (.int 4)) (aCons (eC (.int 40)) (aNil)))) (eCallM [true, false] fn__law_take (aCons (eVar 1) (aCons (eC (.int 2)) (aNil))))) (aNil)))))
noncomputable abbrev L2 : Sv := sSet 3 (eOp (fIx false) (eLst (aCons (eC (.str "once")) (aCons (eC (.str "twice")) (aNil)))) (eCallM [true, false] fn__law_take (aCons (eVar 1) (aCons (eC (.int 2)) (aNil)))))
noncomputable abbrev L3 : Sv := sSet 4 (eCall 3 fn__law_walk (aCons (eVar 2) (aCons (eVar 3) (aCons (eOp fMul (eC (.int 10)) (eVar 2)) (aNil)))))
noncomputable abbrev L4 : Sv := sSet 5 (eCall 5 fn__law_told (aCons (eC (.int 0)) (aCons (eVar 2) (aCons (eVar 3) (aCons (eC (.int 0)) (aCons (eC (.int 0)) (aNil)))))))
noncomputable abbrev L5 : Sv := sIf (eOr (eB (e1 (fIsiV "bool") (eVar 5))) (eOr (eNot (eB (e1 (fIsiV "int") (eVar 5)))) (eOpT fNe (eSl (eVar 4) (pAt (eVar 5)) (pAt (eOp fMul (eC (.int 4)) (eVar 5)))) (eSl (eVar 4) (pNo) (pAt (eOp fMul (eC (.int 3)) (eVar 5))))))) (sRet (eC (.bool false))) (sNx)
noncomputable abbrev L6 : Sv := sIf (eOpT fNe (eLc [22] (tgN 22) (eOpT fEq (eSl (eVar 4) (pAt (eVar 22)) (pAt (eOp fAdd (eVar 22) (eVar 5)))) (eSl (eVar 4) (pNo) (pAt (eVar 5)))) (eVar 22) (iRange rng2 (aCons (eC (.int 1)) (aCons (eVar 5) (aNil))))) (eLst (aNil))) (sRet (eC (.bool false))) (sNx)
noncomputable abbrev L7 : Sv := sSet 6 (eC (.int 0))
noncomputable abbrev L8 : Sv := sFor (iRange rng1 (aCons (eC (.int 9)) (aNil))) (tgN 7) (sSet 6 (eOp fAdd (eOp fMul (eVar 6) (eC (.int 997))) (eCallM [true, false] fn__law_take (aCons (eVar 1) (aCons (eC (.int 997)) (aNil))))))
noncomputable abbrev L9 : Sv := sFor (iSeq (eLst (aCons (eC (.int 0)) (aCons (eC (.int 1)) (aCons (eOp fSub (eVar 2) (eC (.int 1))) (aCons (eVar 2) (aCons (eCallM [true, false] fn__law_take (aCons (eVar 1) (aCons (eOp fMul (eC (.int 10)) (eVar 2)) (aNil)))) (aCons (eVar 6) (aNil))))))))) (tgN 8) (sSeq (sSet 20 (eIf (eOpT fLt (eVar 8) (eBlt fLen (aCons (eVar 4) (aNil)))) (eOp (fIx false) (eVar 4) (eVar 8)) (eOp (fIx false) (eVar 4) (eOp fMod (eBlt fInt (aCons (eVar 8) (aNil))) (eVar 5)))))
  (sIf (eNot (eB (eCall 2 fn__law_alike (aCons (eCall 5 fn__law_told (aCons (eC (.int 1)) (aCons (eVar 2) (aCons (eVar 3) (aCons (eVar 8) (aCons (eC (.int 0)) (aNil))))))) (aCons (eVar 20) (aNil)))))) (sRet (eC (.bool false))) (sNx)))
noncomputable abbrev L10 : Sv := sFor (iRange rng1 (aCons (eC (.int 4)) (aNil))) (tgN 7) (sSeq (sSet 15 (eOp (fIx false) (eLst (aCons (eC (.int 0)) (aCons (eOp fSub (eVar 2) (eC (.int 1))) (aCons (eCallM [true, false] fn__law_take (aCons (eVar 1) (aCons (eVar 2) (aNil)))) (aCons (eCallM [true, false] fn__law_take (aCons (eVar 1) (aCons (eVar 2) (aNil)))) (aNil)))))) (eVar 7)))
  (sFor (iSeq (eLst (aCons (eC (.int 0)) (aCons (eC (.int 1)) (aCons (eCallM [true, false] fn__law_take (aCons (eVar 1) (aCons (eOp fMul (eC (.int 10)) (eVar 2)) (aNil)))) (aCons (eVar 6) (aNil))))))) (tgN 12) (sSeq (sSet 21 (eIf (eOpT fLt (eVar 12) (eBlt fLen (aCons (eVar 4) (aNil)))) (eC (.int 0)) (eOp fDiv (eVar 12) (eVar 5))))
  (sSeq (sSet 20 (eOp fAdd (eBlt fLen (aCons (eLc [23] (tgN 23) (eOpT fEq (eVar 23) (eVar 15)) (eVar 23) (iSeq (eSl (eVar 4) (pNo) (pAt (eOp fSub (eVar 12) (eOp fMul (eVar 21) (eVar 5))))))) (aNil))) (eOp fMul (eVar 21) (eBlt fLen (aCons (eLc [23] (tgN 23) (eOpT fEq (eVar 23) (eVar 15)) (eVar 23) (iSeq (eSl (eVar 4) (pNo) (pAt (eVar 5))))) (aNil))))))
  (sIf (eNot (eB (eCall 2 fn__law_alike (aCons (eCall 5 fn__law_told (aCons (eC (.int 2)) (aCons (eVar 2) (aCons (eVar 3) (aCons (eVar 15) (aCons (eVar 12) (aNil))))))) (aCons (eVar 20) (aNil)))))) (sRet (eC (.bool false))) (sNx))))))
noncomputable abbrev L11 : Sv := sSet 9 (eOp fAdd (eC (.int 1)) (eCallM [true, false] fn__law_take (aCons (eVar 1) (aCons (eC (.int 4)) (aNil)))))
noncomputable abbrev L12 : Sv := sSet 10 (eOp fMul (eLst (aCons (eC (.int 0)) (aNil))) (eVar 2))
noncomputable abbrev L13 : Sv := sSet 11 (eC .none)
noncomputable abbrev L14 : Sv := sFor (iRange rng1 (aCons (eBlt fLen (aCons (eVar 4) (aNil))) (aNil))) (tgN 8) (sSeq (sPut false 10 (eOp (fIx false) (eVar 4) (eVar 8)) (eOp fAdd (eOp (fIx false) (eVar 10) (eOp (fIx false) (eVar 4) (eVar 8))) (eC (.int 1))))
  (sIf (eAnd (eOpT fIsN (eVar 11) (eC .none)) (eOpT fGe (eBlt fMin (aCons (eVar 10) (aNil))) (eVar 9))) (sSet 11 (eOp fAdd (eVar 8) (eC (.int 1)))) (sNx)))
noncomputable abbrev L15 : Sv := sIf (eNot (eB (eCall 2 fn__law_alike (aCons (eCall 5 fn__law_told (aCons (eC (.int 3)) (aCons (eVar 2) (aCons (eVar 3) (aCons (eVar 9) (aCons (eC (.int 0)) (aNil))))))) (aCons (eVar 11) (aNil)))))) (sRet (eC (.bool false))) (sNx)
noncomputable abbrev L16 : Sv := sSet 12 (eCallM [true, false] fn__law_take (aCons (eVar 1) (aCons (eOp fMul (eC (.int 10)) (eVar 2)) (aNil))))
noncomputable abbrev L17 : Sv := sSet 10 (eLc [15] (tgN 15) (tTrue) (eCall 5 fn__law_told (aCons (eC (.int 2)) (aCons (eVar 2) (aCons (eVar 3) (aCons (eVar 15) (aCons (eVar 12) (aNil))))))) (iRange rng1 (aCons (eVar 2) (aNil))))
noncomputable abbrev L18 : Sv := sSet 13 (eLc [15] (tgN 15) (tTrue) (eCall 5 fn__law_told (aCons (eC (.int 2)) (aCons (eVar 2) (aCons (eVar 3) (aCons (eVar 15) (aCons (eOp fMul (eVar 5) (eVar 9)) (aNil))))))) (iRange rng1 (aCons (eVar 2) (aNil))))
noncomputable abbrev L19 : Sv := sIf (eAnd (eOpT fEq (eVar 3) (eC (.str "twice"))) (eOr (eOpT fGt (eOp fSub (eBlt fMax (aCons (eVar 10) (aNil))) (eBlt fMin (aCons (eVar 10) (aNil)))) (eC (.int 1))) (eOpT fNe (eVar 13) (eOp fMul (eLst (aCons (eOp fMul (eC (.int 2)) (eVar 9)) (aNil))) (eVar 2))))) (sRet (eC (.bool false))) (sNx)
noncomputable abbrev L20 : Sv := sIf (eAnd (eOpT fEq (eVar 3) (eC (.str "once"))) (eOpT fNe (eVar 13) (eOp fAdd (eOp fAdd (eLst (aCons (eVar 9) (aNil))) (eOp fMul (eLst (aCons (eOp fMul (eC (.int 2)) (eVar 9)) (aNil))) (eOp fSub (eVar 2) (eC (.int 2))))) (eLst (aCons (eVar 9) (aNil)))))) (sRet (eC (.bool false))) (sNx)
noncomputable abbrev L21 : Sv := sSet 14 (eOp fAdd (eOp fAdd (eC (.int 2)) (eOp fMul (eCallM [true, false] fn__law_take (aCons (eVar 1) (aCons (eC (.int 997)) (aNil)))) (eC (.int 997)))) (eCallM [true, false] fn__law_take (aCons (eVar 1) (aCons (eC (.int 997)) (aNil)))))
noncomputable abbrev L22 : Sv := sSet 15 (eCall 5 fn__law_told (aCons (eC (.int 1)) (aCons (eVar 14) (aCons (eVar 3) (aCons (eVar 6) (aCons (eC (.int 0)) (aNil)))))))
noncomputable abbrev L23 : Sv := sIf (eOr (eB (e1 (fIsiV "bool") (eVar 15))) (eOr (eNot (eB (e1 (fIsiV "int") (eVar 15)))) (eOr (eNot (eChain fLe fLt (eC (.int 0)) (eVar 15) (eVar 14))) (eOpT fNe (eCall 5 fn__law_told (aCons (eC (.int 2)) (aCons (eVar 14) (aCons (eVar 3) (aCons (eVar 15) (aCons (eOp fAdd (eVar 6) (eC (.int 1))) (aNil))))))) (eOp fAdd (eCall 5 fn__law_told (aCons (eC (.int 2)) (aCons (eVar 14) (aCons (eVar 3) (aCons (eVar 15) (aCons (eVar 6) (aNil))))))) (eC (.int 1))))))) (sRet (eC (.bool false))) (sNx)
noncomputable abbrev L24 : Sv := sSet 16 (eCall 5 fn__law_told (aCons (eC (.int 3)) (aCons (eVar 14) (aCons (eVar 3) (aCons (eOp fAdd (eC (.int 1)) (eVar 6)) (aCons (eC (.int 0)) (aNil)))))))
noncomputable abbrev L25 : Sv := sSet 17 (eBlt fMin (aCons (eLc [23] (tgN 23) (tTrue) (eCall 5 fn__law_told (aCons (eC (.int 2)) (aCons (eVar 14) (aCons (eVar 3) (aCons (eVar 23) (aCons (eVar 16) (aNil))))))) (iSeq (eLst (aCons (eC (.int 0)) (aCons (eC (.int 1)) (aCons (eOp fDiv (eVar 14) (eC (.int 2))) (aCons (eOp fSub (eVar 14) (eC (.int 2))) (aCons (eOp fSub (eVar 14) (eC (.int 1))) (aNil))))))))) (aNil)))
noncomputable abbrev L26 : Sv := sIf (eOr (eOpT fNe (eVar 17) (eOp fAdd (eC (.int 1)) (eVar 6))) (eOpT fGe (eBlt fMin (aCons (eLc [23] (tgN 23) (tTrue) (eCall 5 fn__law_told (aCons (eC (.int 2)) (aCons (eVar 14) (aCons (eVar 3) (aCons (eVar 23) (aCons (eOp fSub (eVar 16) (eC (.int 1))) (aNil))))))) (iSeq (eLst (aCons (eC (.int 0)) (aCons (eOp fSub (eVar 14) (eC (.int 1))) (aNil)))))) (aNil))) (eOp fAdd (eC (.int 1)) (eVar 6)))) (sRet (eC (.bool false))) (sNx)
noncomputable abbrev L27 : Sv := sSet 18 (eLc [24, 23] (tgT [tgN 24, tgN 23]) (tTrue) (eCall 5 fn__law_told (aCons (eVar 24) (aCons (eVar 23) (aCons (eVar 3) (aCons (eC (.int 1)) (aCons (eC (.int 1)) (aNil))))))) (iSeq (eLst (aCons (eTup (aCons (eC (.int 0)) (aCons (eC (.int 1)) (aNil)))) (aCons (eTup (aCons (eC (.int 0)) (aCons (eOp fAdd (eOp fPow (eC (.int 10)) (eC (.int 6))) (eC (.int 1))) (aNil)))) (aCons (eTup (aCons (eC (.int 1)) (aCons (eC (.int 1)) (aNil)))) (aCons (eTup (aCons (eC (.int 2)) (aCons (eC (.int 1)) (aNil)))) (aCons (eTup (aCons (eC (.int 3)) (aCons (eC (.int 1)) (aNil)))) (aCons (eTup (aCons (eC (.int 3)) (aCons (eOp fAdd (eOp fPow (eC (.int 10)) (eC (.int 6))) (eC (.int 1))) (aNil)))) (aNil))))))))))
noncomputable abbrev L28 : Sv := sSet 18 (eOp fAdd (eVar 18) (eLst (aCons (eCall 5 fn__law_told (aCons (eC (.int 1)) (aCons (eVar 2) (aCons (eVar 3) (aCons (e1 fNeg (eC (.int 1))) (aCons (eC (.int 0)) (aNil))))))) (aCons (eCall 5 fn__law_told (aCons (eC (.int 2)) (aCons (eVar 2) (aCons (eVar 3) (aCons (eC (.int 0)) (aCons (e1 fNeg (eC (.int 1))) (aNil))))))) (aCons (eCall 5 fn__law_told (aCons (eC (.int 3)) (aCons (eVar 2) (aCons (eVar 3) (aCons (eC (.int 0)) (aCons (eC (.int 0)) (aNil))))))) (aNil))))))
noncomputable abbrev L29 : Sv := sSet 19 (eOp fAdd (eLc [24, 23] (tgT [tgN 24, tgN 23]) (tTrue) (eCall 5 fn__law_told (aCons (eVar 24) (aCons (eVar 2) (aCons (eVar 23) (aCons (eC (.int 1)) (aCons (eC (.int 1)) (aNil))))))) (iSeq (eLst (aCons (eTup (aCons (eC (.int 0)) (aCons (eC (.str "thrice")) (aNil)))) (aCons (eTup (aCons (eC (.int 1)) (aCons (eC (.str "")) (aNil)))) (aCons (eTup (aCons (eC (.int 2)) (aCons (eC (.str "Once")) (aNil)))) (aCons (eTup (aCons (eC (.int 3)) (aCons (eC (.str "twice ")) (aNil)))) (aNil)))))))) (eLc [23] (tgN 23) (tTrue) (eCall 5 fn__law_told (aCons (eC (.int 2)) (aCons (eVar 2) (aCons (eVar 3) (aCons (eVar 23) (aCons (e1 fNeg (eC (.int 1))) (aNil))))))) (iSeq (eLst (aCons (e1 fNeg (eC (.int 1))) (aCons (eVar 2) (aNil)))))))
noncomputable abbrev L30 : Sv := sRet (eAndV (eOp (boolRes fEq) (eVar 18) (eOp fMul (eLst (aCons (eC (.str "range")) (aNil))) (eC (.int 9)))) (eOp (boolRes fEq) (eVar 19) (eOp fMul (eLst (aCons (eC (.str "none")) (aNil))) (eC (.int 6)))))

section
end
end K77
end
section
set_option Elab.async false
set_option linter.all false
set_option maxRecDepth 100000
set_option maxHeartbeats 4000000
namespace K77
open PySem L2 Pd
/-- the frame: script draws n kind walk size great turn letter strikes counts first letters whole far spot behind least words none due rounds part one which -/
abbrev fr (s1 s2 s3 s4 s5 s6 s7 s8 s9 s10 s11 s12 s13 s14 s15 s16 s17 s18 s19 s20 s21 s22 s23 s24 : Sl) (sc : D) : Pd.Env := [.v sc, s1, s2, s3, s4, s5, s6, s7, s8, s9, s10, s11, s12, s13, s14, s15, s16, s17, s18, s19, s20, s21, s22, s23, s24]
def Good (o : SOut) : Prop := ∃ ρ, o = .rt (.v (.bool true)) ρ
theorem good_seq {S R : Sv} {ρ ρ1 : Pd.Env} (h : S ρ = .nx ρ1) (h2 : Good (R ρ1)) : Good (sSeq S R ρ) := by
  rw [y_seq, h]
  exact h2
theorem pick2 {a b : D} {r : Int} (h0 : 0 ≤ r) (h1 : r < 2) : atI [a, b] r = some a ∨ atI [a, b] r = some b := by
  rcases (by omega : r = 0 ∨ r = 1) with rfl | rfl <;> simp [atI, ixN]
section
variable {sc d : D} {n g : Int} {k : Bool}
theorem st_n (h : DS d) : ∃ d' n, DS d' ∧ 2 ≤ n ∧ n ≤ 41 ∧ L1 (fr (.o d) .u .u .u .u .u .u .u .u .u .u .u .u .u .u .u .u .u .u .u .u .u .u .u sc) = .nx (fr (.o d') (.v (.int n)) .u .u .u .u .u .u .u .u .u .u .u .u .u .u .u .u .u .u .u .u .u .u sc) := by
  obtain ⟨r1, d1, e1, s1, a1, b1⟩ := take_ok h (b := 2) (by decide)
  have h2 : ∃ z : Int, (z = 4 ∨ z = 40) ∧ atI [PyData.int 4, .int 40] r1 = some (.int z) := by
    rcases pick2 (a := .int 4) (b := .int 40) a1 b1 with hz | hz
    · exact ⟨_, .inl rfl, hz⟩
    · exact ⟨_, .inr rfl, hz⟩
  obtain ⟨z, hz, ez⟩ := h2
  obtain ⟨r2, d2, e2, s2, a2, b2⟩ := take_ok s1 (b := z) (by omega)
  refine ⟨d2, 2 + r2, s2, by omega, by omega, ?_⟩
  unfold L1
  simp [e1, ez, e2]
theorem st_kind (h : DS d) : ∃ d' k, DS d' ∧ L2 (fr (.o d) (.v (.int n)) .u .u .u .u .u .u .u .u .u .u .u .u .u .u .u .u .u .u .u .u .u .u sc) = .nx (fr (.o d') (.v (.int n)) (.v (kd k)) .u .u .u .u .u .u .u .u .u .u .u .u .u .u .u .u .u .u .u .u .u sc) := by
  obtain ⟨r1, d1, e1, s1, a1, b1⟩ := take_ok h (b := 2) (by decide)
  unfold L2
  rcases pick2 (a := .str "once") (b := .str "twice") a1 b1 with hz | hz
  · exact ⟨d1, true, s1, by simp [e1, hz, kd_t]⟩
  · exact ⟨d1, false, s1, by simp [e1, hz, kd_f]⟩
theorem st_walk (R : Rb n) (n41 : n ≤ 41) : L3 (fr (.o d) (.v (.int n)) (.v (kd k)) .u .u .u .u .u .u .u .u .u .u .u .u .u .u .u .u .u .u .u .u .u sc) = .nx (fr (.o d) (.v (.int n)) (.v (kd k)) (.o (.list (wl n k (10 * n).toNat))) .u .u .u .u .u .u .u .u .u .u .u .u .u .u .u .u .u .u .u .u sc) := by
  have n2 := R.n2
  have h := walk_ok (k := k) R (m := 10 * n) (by omega) (by omega)
  unfold L3
  generalize kd k = K at *
  simp [h]
theorem st_size (R : Rb n) : L4 (fr (.o d) (.v (.int n)) (.v (kd k)) (.o (.list (wl n k (10 * n).toNat))) .u .u .u .u .u .u .u .u .u .u .u .u .u .u .u .u .u .u .u .u sc) = .nx (fr (.o d) (.v (.int n)) (.v (kd k)) (.o (.list (wl n k (10 * n).toNat))) (.v (.int (sz n k))) .u .u .u .u .u .u .u .u .u .u .u .u .u .u .u .u .u .u .u sc) := by
  have h := told0 (k := k) (a := 0) (b := 0) R
  unfold L4
  generalize kd k = K at *
  simp [h]
theorem wl_ints {m : Nat} : wl n k m = ((List.range m).map fun t : Nat => sp n k t).map PyData.int := by
  rw [List.map_map]
  rfl
theorem row_ints {f : Nat → Int} {m : Nat} : (List.range m).map (fun t => PyData.int (f t)) = ((List.range m).map f).map PyData.int := by
  rw [List.map_map]
  rfl
theorem wl_cut {a b : Int} (h0 : 0 ≤ a) (h1 : a ≤ b) (h2 : b ≤ 10 * n) (n2 : 2 ≤ n) : cutD (wl n k (10 * n).toNat) (some a) (some b) = ((List.range (b - a).toNat).map fun t : Nat => sp n k (a + t)).map PyData.int := by
  have := cut_row (f := fun t : Nat => PyData.int (sp n k t)) (m := (10 * n).toNat) h0 h1 (by omega)
  rw [List.map_map]
  refine this.trans (List.map_congr_left fun t _ => ?_)
  show PyData.int _ = PyData.int _
  rw [Int.natCast_add, Int.toNat_of_nonneg h0]
theorem wl_cut0 {b : Int} (h0 : 0 ≤ b) (h2 : b ≤ 10 * n) (n2 : 2 ≤ n) : cutD (wl n k (10 * n).toNat) none (some b) = ((List.range b.toNat).map fun t : Nat => sp n k t).map PyData.int := by
  rw [List.map_map]
  exact cut_row0 (f := fun t : Nat => PyData.int (sp n k t)) (m := (10 * n).toNat) h0 (by omega)
theorem st_rounds (R : Rb n) (n41 : n ≤ 41) : L5 (fr (.o d) (.v (.int n)) (.v (kd k)) (.o (.list (wl n k (10 * n).toNat))) (.v (.int (sz n k))) .u .u .u .u .u .u .u .u .u .u .u .u .u .u .u .u .u .u .u sc) = .nx (fr (.o d) (.v (.int n)) (.v (kd k)) (.o (.list (wl n k (10 * n).toNat))) (.v (.int (sz n k))) .u .u .u .u .u .u .u .u .u .u .u .u .u .u .u .u .u .u .u sc) := by
  have n2 := R.n2
  have z : 2 ≤ sz n k ∧ sz n k ≤ 2 * n := by unfold sz; split <;> omega
  have c1 := wl_cut (k := k) (a := sz n k) (b := 4 * sz n k) (n := n) (by omega) (by omega) (by omega) n2
  have c2 := wl_cut0 (k := k) (b := 3 * sz n k) (n := n) (by omega) (by omega) n2
  have e : (4 * sz n k - sz n k).toNat = (3 * sz n k).toNat := by omega
  have e2 : ((List.range (3 * sz n k).toNat).map fun t : Nat => sp n k (sz n k + t)) = (List.range (3 * sz n k).toNat).map fun t : Nat => sp n k t := List.map_congr_left fun t _ => by rw [Int.add_comm, sp_round]
  have m1 : mulFits 4 (sz n k) = true := fits_l (by decide)
  have m2 : mulFits 3 (sz n k) = true := fits_l (by decide)
  rw [e, e2] at c1
  unfold L5
  generalize kd k = K at *
  generalize wl n k (10 * n).toNat = X at *
  generalize (List.range (3 * sz n k).toNat).map (fun t : Nat => sp n k t) = A at *
  generalize sz n k = y at *
  simp [m1, m2, fSl, c1, c2, ne_ints]
theorem st_noless (R : Rb n) (n41 : n ≤ 41) : L6 (fr (.o d) (.v (.int n)) (.v (kd k)) (.o (.list (wl n k (10 * n).toNat))) (.v (.int (sz n k))) .u .u .u .u .u .u .u .u .u .u .u .u .u .u .u .u .u .u .u sc) = .nx (fr (.o d) (.v (.int n)) (.v (kd k)) (.o (.list (wl n k (10 * n).toNat))) (.v (.int (sz n k))) .u .u .u .u .u .u .u .u .u .u .u .u .u .u .u .u .u .u .u sc) := by
  have n2 := R.n2
  have z : 2 ≤ sz n k ∧ sz n k ≤ 2 * n := by unfold sz; split <;> omega
  have cf := compF_map (vs := [22]) (g := tgN 22) (c := (eOpT fEq (eSl (eVar 4) (pAt (eVar 22)) (pAt (eOp fAdd (eVar 22) (eVar 5)))) (eSl (eVar 4) (pNo) (pAt (eVar 5))))) (e := eVar 22) (ρ := (fr (.o d) (.v (.int n)) (.v (kd k)) (.o (.list (wl n k (10 * n).toNat))) (.v (.int (sz n k))) .u .u .u .u .u .u .u .u .u .u .u .u .u .u .u .u .u .u .u sc)) (fun q : Nat => PyData.int (1 + (q : Int))) (fun _ => false) (fun _ => .none) (List.range ((sz n k).toNat - 1)) (by
    intro q hq
    rw [List.mem_range] at hq
    have c1 := wl_cut (k := k) (a := 1 + q) (b := 1 + q + sz n k) (n := n) (by omega) (by omega) (by omega) n2
    have c2 := wl_cut0 (k := k) (b := sz n k) (n := n) (by omega) (by omega) n2
    have e : (1 + (q : Int) + sz n k - (1 + q)).toNat = (sz n k).toNat := by omega
    rw [e] at c1
    have ne : ¬ ((List.range (sz n k).toNat).map fun t : Nat => sp n k (1 + q + t)) = (List.range (sz n k).toNat).map fun t : Nat => sp n k t := fun eq => by
      have at_ : ∀ t : Nat, t < 2 → sp n k (1 + q + t) = sp n k t := fun t ht => by
        have h1 := congrArg (fun l : List Int => l[t]?) eq
        simp only [List.getElem?_map] at h1
        rw [List.getElem?_range (by omega)] at h1
        simpa using h1
      rcases no_less R (k := k) (p := 1 + q) (by omega) (by omega) with h | h
      · have := at_ 0 (by omega)
        simp at this
        exact h this
      · have := at_ 1 (by omega)
        simp at this
        exact h this
    refine ⟨_, rfl, (fr (.o d) (.v (.int n)) (.v (kd k)) (.o (.list (wl n k (10 * n).toNat))) (.v (.int (sz n k))) .u .u .u .u .u .u .u .u .u .u .u .u .u .u .u .u (.v (.int (1 + (q : Int)))) .u .u sc), ?_, fun _ => rfl, fun e => Bool.noConfusion e⟩
    generalize kd k = K at *
    generalize wl n k (10 * n).toNat = X at *
    generalize (List.range (sz n k).toNat).map (fun t : Nat => sp n k t) = A at *
    generalize (List.range (sz n k).toNat).map (fun t : Nat => sp n k (1 + q + t)) = A2 at *
    generalize sz n k = y at *
    simp [fSl, c1, c2, eq_ints, ne])
  rw [List.filter_eq_nil_iff.mpr (fun _ _ => by simp)] at cf
  have ln : lineOk ((sz n k).toNat - 1) = true := lineOk_s (by omega)
  have rg : rngOk (sz n k) = true := rngOk_s (by omega) (by omega)
  have rg1 : rngOk 1 = true := rngOk_s (by decide) (by decide)
  unfold L6
  generalize kd k = K at *
  generalize wl n k (10 * n).toNat = X at *
  generalize sz n k = y at *
  simp [rg, rg1, ln]
  unfold rngD
  rw [cf]
  simp
theorem st_great (h : DS d) : ∃ d' g s7, DS d' ∧ 0 ≤ g ∧ L8 (fr (.o d) (.v (.int n)) (.v (kd k)) (.o (.list (wl n k (10 * n).toNat))) (.v (.int (sz n k))) (.v (.int 0)) .u .u .u .u .u .u .u .u .u .u .u .u .u .u .u .u .u .u sc) = .nx (fr (.o d') (.v (.int n)) (.v (kd k)) (.o (.list (wl n k (10 * n).toNat))) (.v (.int (sz n k))) (.v (.int g)) s7 .u .u .u .u .u .u .u .u .u .u .u .u .u .u .u .u .u sc) := by
  have l := forF_all (g := tgN 7) (S := (sSet 6 (eOp fAdd (eOp fMul (eVar 6) (eC (.int 997))) (eCallM [true, false] fn__law_take (aCons (eVar 1) (aCons (eC (.int 997)) (aNil))))))) (ds := rngD 0 9) (ρ := (fr (.o d) (.v (.int n)) (.v (kd k)) (.o (.list (wl n k (10 * n).toNat))) (.v (.int (sz n k))) (.v (.int 0)) .u .u .u .u .u .u .u .u .u .u .u .u .u .u .u .u .u .u sc))
    (fun ρ => ∃ d' g s7, DS d' ∧ 0 ≤ g ∧ ρ = (fr (.o d') (.v (.int n)) (.v (kd k)) (.o (.list (wl n k (10 * n).toNat))) (.v (.int (sz n k))) (.v (.int g)) s7 .u .u .u .u .u .u .u .u .u .u .u .u .u .u .u .u .u sc)) ⟨d, 0, _, h, by decide, rfl⟩ (by
      rintro x hx ρ ⟨d', g, s7, sd, g0, rfl⟩
      obtain ⟨r, d2, e2, sd2, a, b⟩ := take_ok sd (b := 997) (by decide)
      have m : mulFits g 997 = true := fits_r (by decide)
      refine ⟨_, (fr (.o d2) (.v (.int n)) (.v (kd k)) (.o (.list (wl n k (10 * n).toNat))) (.v (.int (sz n k))) (.v (.int (g * 997 + r))) (.v x) .u .u .u .u .u .u .u .u .u .u .u .u .u .u .u .u .u sc), rfl, .inl ?_, d2, g * 997 + r, _, sd2, by omega, rfl⟩
      simp [e2, m])
  obtain ⟨ρ', h1, d', g, s7, sd, g0, rfl⟩ := l
  refine ⟨d', g, s7, sd, g0, ?_⟩
  have rg : rngOk 9 = true := rngOk_s (by decide) (by decide)
  unfold L8
  simp [rg]
  exact h1
theorem st_great0 : L7 (fr (.o d) (.v (.int n)) (.v (kd k)) (.o (.list (wl n k (10 * n).toNat))) (.v (.int (sz n k))) .u .u .u .u .u .u .u .u .u .u .u .u .u .u .u .u .u .u .u sc) = .nx (fr (.o d) (.v (.int n)) (.v (kd k)) (.o (.list (wl n k (10 * n).toNat))) (.v (.int (sz n k))) (.v (.int 0)) .u .u .u .u .u .u .u .u .u .u .u .u .u .u .u .u .u .u sc) := by
  unfold L7
  simp
theorem st_letters (R : Rb n) (n41 : n ≤ 41) (hg : 0 ≤ g) (h : DS d) {s7 : Sl} : ∃ d' s8 s20, DS d' ∧ L9 (fr (.o d) (.v (.int n)) (.v (kd k)) (.o (.list (wl n k (10 * n).toNat))) (.v (.int (sz n k))) (.v (.int g)) s7 .u .u .u .u .u .u .u .u .u .u .u .u .u .u .u .u .u sc) = .nx (fr (.o d') (.v (.int n)) (.v (kd k)) (.o (.list (wl n k (10 * n).toNat))) (.v (.int (sz n k))) (.v (.int g)) s7 s8 .u .u .u .u .u .u .u .u .u .u .u s20 .u .u .u .u sc) := by
  have n2 := R.n2
  have z : 2 ≤ sz n k ∧ sz n k ≤ 2 * n := by unfold sz; split <;> omega
  obtain ⟨r, d', e1, sd, a, b⟩ := take_ok h (b := 10 * n) (by omega)
  have l := forF_all (g := tgN 8) (S := (sSeq (sSet 20 (eIf (eOpT fLt (eVar 8) (eBlt fLen (aCons (eVar 4) (aNil)))) (eOp (fIx false) (eVar 4) (eVar 8)) (eOp (fIx false) (eVar 4) (eOp fMod (eBlt fInt (aCons (eVar 8) (aNil))) (eVar 5))))) (sIf (eNot (eB (eCall 2 fn__law_alike (aCons (eCall 5 fn__law_told (aCons (eC (.int 1)) (aCons (eVar 2) (aCons (eVar 3) (aCons (eVar 8) (aCons (eC (.int 0)) (aNil))))))) (aCons (eVar 20) (aNil)))))) (sRet (eC (.bool false))) (sNx)))) (ds := [.int 0, .int 1, .int (n - 1), .int n, .int r, .int g]) (ρ := (fr (.o d') (.v (.int n)) (.v (kd k)) (.o (.list (wl n k (10 * n).toNat))) (.v (.int (sz n k))) (.v (.int g)) s7 .u .u .u .u .u .u .u .u .u .u .u .u .u .u .u .u .u sc))
    (fun ρ => ∃ s8 s20, ρ = (fr (.o d') (.v (.int n)) (.v (kd k)) (.o (.list (wl n k (10 * n).toNat))) (.v (.int (sz n k))) (.v (.int g)) s7 s8 .u .u .u .u .u .u .u .u .u .u .u s20 .u .u .u .u sc)) ⟨_, _, rfl⟩ (by
      rintro x hx ρ ⟨s8, s20, rfl⟩
      have hz : ∃ t : Int, x = .int t ∧ 0 ≤ t := by
        simp only [List.mem_cons, List.mem_nil_iff, or_false] at hx
        rcases hx with rfl | rfl | rfl | rfl | rfl | rfl
        all_goals exact ⟨_, rfl, by omega⟩
      obtain ⟨t, rfl, t0⟩ := hz
      refine ⟨_, (fr (.o d') (.v (.int n)) (.v (kd k)) (.o (.list (wl n k (10 * n).toNat))) (.v (.int (sz n k))) (.v (.int g)) s7 (.v (.int t)) .u .u .u .u .u .u .u .u .u .u .u (.v (.int (sp n k t))) .u .u .u .u sc), rfl, .inl ?_, _, _, rfl⟩
      have t1 := told1 (k := k) (b := 0) R t0
      have wl_l : ((wl n k (10 * n).toNat).length : Int) = 10 * n := by rw [wl_len]; omega
      have m0 : 0 < sz n k := by omega
      by_cases c : t < 10 * n
      · have w := wl_i (n := n) (k := k) (m := (10 * n).toNat) t0 (by omega)
        generalize kd k = K at *
        generalize wl n k (10 * n).toNat = X at *
        generalize sz n k = y at *
        simp [wl_l, c, w, t1, alike_int]
      · have w := wl_i (n := n) (k := k) (m := (10 * n).toNat) (i := t % sz n k) (Int.emod_nonneg _ (by omega)) (by have := Int.emod_lt_of_pos t m0; omega)
        rw [sp_emod] at w
        generalize kd k = K at *
        generalize wl n k (10 * n).toNat = X at *
        generalize sz n k = y at *
        simp [wl_l, c, w, t1, alike_int, m0])
  obtain ⟨ρ', h1, s8, s20, rfl⟩ := l
  refine ⟨d', s8, s20, sd, ?_⟩
  have m : mulFits 10 n = true := fits_l (by decide)
  unfold L9
  simp [m, e1]
  exact h1
end
end K77
end
section
set_option Elab.async false
set_option linter.all false
set_option maxRecDepth 100000
set_option maxHeartbeats 4000000
namespace K77
open PySem L2 Pd
section
variable {sc d : D} {n g c : Int} {k : Bool} {s7 s8 s12 s15 s20 s21 t7 t20 : Sl}
theorem pick4 {a b c e : D} {i : Nat} (h : i < 4) : ∃ x ∈ [a, b, c, e], atI [a, b, c, e] (0 + (i : Int)) = some x := by
  rcases (by omega : i = 0 ∨ i = 1 ∨ i = 2 ∨ i = 3) with rfl | rfl | rfl | rfl <;> simp [atI, ixN]
theorem cf_spot (R : Rb n) {s : Int} (h0 : 0 ≤ s) (h1 : s < n) (M : Nat) : ∃ ys, compF [23] (tgN 23) (eOpT fEq (eVar 23) (eVar 15)) (eVar 23) (((List.range M).map fun t : Nat => sp n k t).map PyData.int) (fr (.o d) (.v (.int n)) (.v (kd k)) (.o (.list (wl n k (10 * n).toNat))) (.v (.int (sz n k))) (.v (.int g)) s7 s8 .u .u .u s12 .u .u (.v (.int s)) .u .u .u .u s20 s21 .u .u .u sc) = some (ys, (fr (.o d) (.v (.int n)) (.v (kd k)) (.o (.list (wl n k (10 * n).toNat))) (.v (.int (sz n k))) (.v (.int g)) s7 s8 .u .u .u s12 .u .u (.v (.int s)) .u .u .u .u s20 s21 .u .u .u sc)) ∧ (ys.length : Int) = st n k s M ∧ ys.length ≤ M := by
  have cf := compF_map (vs := [23]) (g := tgN 23) (c := eOpT fEq (eVar 23) (eVar 15)) (e := eVar 23) (ρ := (fr (.o d) (.v (.int n)) (.v (kd k)) (.o (.list (wl n k (10 * n).toNat))) (.v (.int (sz n k))) (.v (.int g)) s7 s8 .u .u .u s12 .u .u (.v (.int s)) .u .u .u .u s20 s21 .u .u .u sc)) (fun t : Nat => PyData.int (sp n k t)) (fun t : Nat => decide (sp n k t = s)) (fun t : Nat => PyData.int (sp n k t)) (List.range M) (by
    intro t ht
    refine ⟨_, rfl, (fr (.o d) (.v (.int n)) (.v (kd k)) (.o (.list (wl n k (10 * n).toNat))) (.v (.int (sz n k))) (.v (.int g)) s7 s8 .u .u .u s12 .u .u (.v (.int s)) .u .u .u .u s20 s21 .u (.v (.int (sp n k t))) .u sc), ?_, fun _ => rfl, fun _ => ⟨_, _, _, rfl, rfl, rfl⟩⟩
    generalize kd k = K at *
    simp)
  refine ⟨((List.range M).filter fun t : Nat => decide (sp n k t = s)).map fun t : Nat => PyData.int (sp n k t), ?_, ?_, ?_⟩
  · rw [← cf, List.map_map]
    rfl
  · rw [List.length_map, st_count R h0 h1]
  · rw [List.length_map]
    have := List.length_filter_le (fun t : Nat => decide (sp n k t = s)) (List.range M)
    rw [List.length_range] at this
    exact this
theorem st_inner (R : Rb n) (n41 : n ≤ 41) {s t : Int} (h0 : 0 ≤ s) (h1 : s < n) (t0 : 0 ≤ t) : ∃ s20' s21', (sSeq (sSet 21 (eIf (eOpT fLt (eVar 12) (eBlt fLen (aCons (eVar 4) (aNil)))) (eC (.int 0)) (eOp fDiv (eVar 12) (eVar 5)))) (sSeq (sSet 20 (eOp fAdd (eBlt fLen (aCons (eLc [23] (tgN 23) (eOpT fEq (eVar 23) (eVar 15)) (eVar 23) (iSeq (eSl (eVar 4) (pNo) (pAt (eOp fSub (eVar 12) (eOp fMul (eVar 21) (eVar 5))))))) (aNil))) (eOp fMul (eVar 21) (eBlt fLen (aCons (eLc [23] (tgN 23) (eOpT fEq (eVar 23) (eVar 15)) (eVar 23) (iSeq (eSl (eVar 4) (pNo) (pAt (eVar 5))))) (aNil)))))) (sIf (eNot (eB (eCall 2 fn__law_alike (aCons (eCall 5 fn__law_told (aCons (eC (.int 2)) (aCons (eVar 2) (aCons (eVar 3) (aCons (eVar 15) (aCons (eVar 12) (aNil))))))) (aCons (eVar 20) (aNil)))))) (sRet (eC (.bool false))) (sNx)))) (fr (.o d) (.v (.int n)) (.v (kd k)) (.o (.list (wl n k (10 * n).toNat))) (.v (.int (sz n k))) (.v (.int g)) s7 s8 .u .u .u (.v (.int t)) .u .u (.v (.int s)) .u .u .u .u s20 s21 .u .u .u sc) = .nx (fr (.o d) (.v (.int n)) (.v (kd k)) (.o (.list (wl n k (10 * n).toNat))) (.v (.int (sz n k))) (.v (.int g)) s7 s8 .u .u .u (.v (.int t)) .u .u (.v (.int s)) .u .u .u .u s20' s21' .u .u .u sc) := by
  have n2 := R.n2
  have z : 2 ≤ sz n k ∧ sz n k ≤ 2 * n := by unfold sz; split <;> omega
  have z0 : 0 < sz n k := by omega
  have t2 := told2 (k := k) (a := s) (b := t) R h0 h1 t0
  have wl_l : ((wl n k (10 * n).toNat).length : Int) = 10 * n := by rw [wl_len]; omega
  have c2 := wl_cut0 (k := k) (b := sz n k) (n := n) (by omega) (by omega) n2
  by_cases ct : t < 10 * n
  · have c1 := wl_cut0 (k := k) (b := t) (n := n) t0 (by omega) n2
    obtain ⟨ys, f1, l1, m1⟩ := cf_spot (sc := sc) (d := d) (g := g) (k := k) (s7 := s7) (s8 := s8) (s12 := .v (.int t)) (s20 := s20) (s21 := .v (.int 0)) R h0 h1 t.toNat
    obtain ⟨zs, f2, l2, m2⟩ := cf_spot (sc := sc) (d := d) (g := g) (k := k) (s7 := s7) (s8 := s8) (s12 := .v (.int t)) (s20 := s20) (s21 := .v (.int 0)) R h0 h1 (sz n k).toNat
    rw [Int.toNat_of_nonneg t0] at l1
    have ln1 : lineOk t.toNat = true := lineOk_s (by omega)
    have ln2 : lineOk (sz n k).toNat = true := lineOk_s (by omega)
    have mf : ∀ x : Int, mulFits 0 x = true := fun x => fits_l (by decide)
    refine ⟨.v (.int (st n k s t)), .v (.int 0), ?_⟩
    have len1 : (((List.range t.toNat).map fun t : Nat => sp n k t).map PyData.int).length = t.toNat := by simp
    have len2 : (((List.range (sz n k).toNat).map fun t : Nat => sp n k t).map PyData.int).length = (sz n k).toNat := by simp
    generalize kd k = K at *
    generalize ((List.range t.toNat).map fun t : Nat => sp n k t).map PyData.int = A at *
    generalize ((List.range (sz n k).toNat).map fun t : Nat => sp n k t).map PyData.int = A2 at *
    generalize wl n k (10 * n).toNat = X at *
    generalize sz n k = y at *
    simp [wl_l, ct, mf, fSl, c1, c2, len1, len2, ln1, ln2]
    rw [f1]
    simp [c2, len2, ln2]
    rw [f2]
    simp [l1, mf, t2, alike_int]
  · have a := Int.emod_add_mul_ediv t (sz n k)
    have b0 := Int.emod_nonneg t (by omega : sz n k ≠ 0)
    have b1 := Int.emod_lt_of_pos t z0
    have q0 : 0 ≤ t / sz n k := Int.ediv_nonneg t0 (by omega)
    have cut : t - t / sz n k * sz n k = t % sz n k := by rw [Int.mul_comm]; omega
    have c1 := wl_cut0 (k := k) (b := t % sz n k) (n := n) b0 (by omega) n2
    have ad := st_add (k := k) R h0 h1 b0 q0
    rw [Int.mul_comm (t / sz n k) (sz n k), a] at ad
    obtain ⟨ys, f1, l1, m1⟩ := cf_spot (sc := sc) (d := d) (g := g) (k := k) (s7 := s7) (s8 := s8) (s12 := .v (.int t)) (s20 := s20) (s21 := .v (.int (t / sz n k))) R h0 h1 (t % sz n k).toNat
    obtain ⟨zs, f2, l2, m2⟩ := cf_spot (sc := sc) (d := d) (g := g) (k := k) (s7 := s7) (s8 := s8) (s12 := .v (.int t)) (s20 := s20) (s21 := .v (.int (t / sz n k))) R h0 h1 (sz n k).toNat
    rw [Int.toNat_of_nonneg b0] at l1
    rw [Int.toNat_of_nonneg (by omega : 0 ≤ sz n k)] at l2
    have ln1 : lineOk (t % sz n k).toNat = true := lineOk_s (by omega)
    have ln2 : lineOk (sz n k).toNat = true := lineOk_s (by omega)
    have dv : divOk (sz n k) = true := divOk_s (by omega) (by omega)
    have mf : mulFits (t / sz n k) (sz n k) = true := fits_r (by omega)
    have mf2 : mulFits (t / sz n k) (st n k s (sz n k)) = true := fits_r (by rw [← l2]; omega)
    refine ⟨.v (.int (st n k s t)), .v (.int (t / sz n k)), ?_⟩
    have len1 : (((List.range (t % sz n k).toNat).map fun t : Nat => sp n k t).map PyData.int).length = (t % sz n k).toNat := by simp
    have len2 : (((List.range (sz n k).toNat).map fun t : Nat => sp n k t).map PyData.int).length = (sz n k).toNat := by simp
    generalize kd k = K at *
    generalize ((List.range (t % sz n k).toNat).map fun t : Nat => sp n k t).map PyData.int = A at *
    generalize ((List.range (sz n k).toNat).map fun t : Nat => sp n k t).map PyData.int = A2 at *
    generalize wl n k (10 * n).toNat = X at *
    generalize hy : sz n k = y at *
    simp [wl_l, ct, dv, mf, fSl, cut, c1, c2, len1, len2, ln1, ln2]
    rw [f1]
    simp [c2, len2, ln2]
    rw [f2]
    simp [l1, l2, mf2, ← ad, t2, alike_int]
theorem st_turns (R : Rb n) (n41 : n ≤ 41) (hg : 0 ≤ g) (h : DS d) : ∃ d' s7 s12 s15 s20 s21, DS d' ∧ backS (some s15) = s15 ∧ L10 (fr (.o d) (.v (.int n)) (.v (kd k)) (.o (.list (wl n k (10 * n).toNat))) (.v (.int (sz n k))) (.v (.int g)) t7 s8 .u .u .u .u .u .u .u .u .u .u .u t20 .u .u .u .u sc) = .nx (fr (.o d') (.v (.int n)) (.v (kd k)) (.o (.list (wl n k (10 * n).toNat))) (.v (.int (sz n k))) (.v (.int g)) s7 s8 .u .u .u s12 .u .u s15 .u .u .u .u s20 s21 .u .u .u sc) := by
  have n2 := R.n2
  have m : mulFits 10 n = true := fits_l (by decide)
  have l := forF_at (g := tgN 7) (S := (sSeq (sSet 15 (eOp (fIx false) (eLst (aCons (eC (.int 0)) (aCons (eOp fSub (eVar 2) (eC (.int 1))) (aCons (eCallM [true, false] fn__law_take (aCons (eVar 1) (aCons (eVar 2) (aNil)))) (aCons (eCallM [true, false] fn__law_take (aCons (eVar 1) (aCons (eVar 2) (aNil)))) (aNil)))))) (eVar 7))) (sFor (iSeq (eLst (aCons (eC (.int 0)) (aCons (eC (.int 1)) (aCons (eCallM [true, false] fn__law_take (aCons (eVar 1) (aCons (eOp fMul (eC (.int 10)) (eVar 2)) (aNil)))) (aCons (eVar 6) (aNil))))))) (tgN 12) (sSeq (sSet 21 (eIf (eOpT fLt (eVar 12) (eBlt fLen (aCons (eVar 4) (aNil)))) (eC (.int 0)) (eOp fDiv (eVar 12) (eVar 5)))) (sSeq (sSet 20 (eOp fAdd (eBlt fLen (aCons (eLc [23] (tgN 23) (eOpT fEq (eVar 23) (eVar 15)) (eVar 23) (iSeq (eSl (eVar 4) (pNo) (pAt (eOp fSub (eVar 12) (eOp fMul (eVar 21) (eVar 5))))))) (aNil))) (eOp fMul (eVar 21) (eBlt fLen (aCons (eLc [23] (tgN 23) (eOpT fEq (eVar 23) (eVar 15)) (eVar 23) (iSeq (eSl (eVar 4) (pNo) (pAt (eVar 5))))) (aNil)))))) (sIf (eNot (eB (eCall 2 fn__law_alike (aCons (eCall 5 fn__law_told (aCons (eC (.int 2)) (aCons (eVar 2) (aCons (eVar 3) (aCons (eVar 15) (aCons (eVar 12) (aNil))))))) (aCons (eVar 20) (aNil)))))) (sRet (eC (.bool false))) (sNx))))))) (ds := rngD 0 4)
    (fun i ρ => ∃ d' s7 s12 s15 s20 s21, DS d' ∧ backS (some s15) = s15 ∧ ρ = (fr (.o d') (.v (.int n)) (.v (kd k)) (.o (.list (wl n k (10 * n).toNat))) (.v (.int (sz n k))) (.v (.int g)) s7 s8 .u .u .u s12 .u .u s15 .u .u .u .u s20 s21 .u .u .u sc)) (by
      rintro i x hx ρ ⟨d', s7, s12, s15, s20, s21, sd, _, rfl⟩
      have hi := get_lt hx
      rw [rngD_len] at hi
      have hx' : x = .int (0 + (i : Int)) := by
        unfold rngD at hx
        rw [List.getElem?_map, List.getElem?_range hi] at hx
        simpa using hx.symm
      subst hx'
      obtain ⟨r1, d1, e1, sd1, a1, b1⟩ := take_ok sd (b := n) (by omega)
      obtain ⟨r2, d2, e2, sd2, a2, b2⟩ := take_ok sd1 (b := n) (by omega)
      obtain ⟨x, hx, ex⟩ := pick4 (a := .int 0) (b := .int (n - 1)) (c := .int r1) (e := .int r2) hi
      have hs : ∃ s : Int, x = .int s ∧ 0 ≤ s ∧ s < n := by
        simp only [List.mem_cons, List.mem_nil_iff, or_false] at hx
        rcases hx with rfl | rfl | rfl | rfl
        all_goals exact ⟨_, rfl, by omega, by omega⟩
      obtain ⟨s, rfl, h0, h1⟩ := hs
      obtain ⟨r3, d3, e3, sd3, a3, b3⟩ := take_ok sd2 (b := 10 * n) (by omega)
      have l2 := forF_all (g := tgN 12) (S := (sSeq (sSet 21 (eIf (eOpT fLt (eVar 12) (eBlt fLen (aCons (eVar 4) (aNil)))) (eC (.int 0)) (eOp fDiv (eVar 12) (eVar 5)))) (sSeq (sSet 20 (eOp fAdd (eBlt fLen (aCons (eLc [23] (tgN 23) (eOpT fEq (eVar 23) (eVar 15)) (eVar 23) (iSeq (eSl (eVar 4) (pNo) (pAt (eOp fSub (eVar 12) (eOp fMul (eVar 21) (eVar 5))))))) (aNil))) (eOp fMul (eVar 21) (eBlt fLen (aCons (eLc [23] (tgN 23) (eOpT fEq (eVar 23) (eVar 15)) (eVar 23) (iSeq (eSl (eVar 4) (pNo) (pAt (eVar 5))))) (aNil)))))) (sIf (eNot (eB (eCall 2 fn__law_alike (aCons (eCall 5 fn__law_told (aCons (eC (.int 2)) (aCons (eVar 2) (aCons (eVar 3) (aCons (eVar 15) (aCons (eVar 12) (aNil))))))) (aCons (eVar 20) (aNil)))))) (sRet (eC (.bool false))) (sNx))))) (ds := [.int 0, .int 1, .int r3, .int g]) (ρ := (fr (.o d3) (.v (.int n)) (.v (kd k)) (.o (.list (wl n k (10 * n).toNat))) (.v (.int (sz n k))) (.v (.int g)) (.v (.int (0 + (i : Int)))) s8 .u .u .u s12 .u .u (.v (.int s)) .u .u .u .u s20 s21 .u .u .u sc))
        (fun ρ => ∃ s12 s20 s21, ρ = (fr (.o d3) (.v (.int n)) (.v (kd k)) (.o (.list (wl n k (10 * n).toNat))) (.v (.int (sz n k))) (.v (.int g)) (.v (.int (0 + (i : Int)))) s8 .u .u .u s12 .u .u (.v (.int s)) .u .u .u .u s20 s21 .u .u .u sc)) ⟨_, _, _, rfl⟩ (by
          rintro x hx ρ ⟨s12, s20, s21, rfl⟩
          have hz : ∃ t : Int, x = .int t ∧ 0 ≤ t := by
            simp only [List.mem_cons, List.mem_nil_iff, or_false] at hx
            rcases hx with rfl | rfl | rfl | rfl
            all_goals exact ⟨_, rfl, by omega⟩
          obtain ⟨t, rfl, t0⟩ := hz
          obtain ⟨s20', s21', e⟩ := st_inner (sc := sc) (d := d3) (g := g) (k := k) (s7 := .v (.int (0 + (i : Int)))) (s8 := s8) (s20 := s20) (s21 := s21) R n41 h0 h1 t0
          exact ⟨_, _, rfl, .inl e, _, _, _, rfl⟩)
      obtain ⟨ρ', h2, s12', s20', s21', rfl⟩ := l2
      refine ⟨_, (fr (.o d3) (.v (.int n)) (.v (kd k)) (.o (.list (wl n k (10 * n).toNat))) (.v (.int (sz n k))) (.v (.int g)) (.v (.int (0 + (i : Int)))) s8 .u .u .u s12' .u .u (.v (.int s)) .u .u .u .u s20' s21' .u .u .u sc), rfl, .inl ?_, d3, _, _, _, _, _, sd3, rfl, rfl⟩
      simp only [Int.zero_add] at h2 ex
      generalize kd k = K at *
      simp [e1, e2, e3, ex, m]
      exact h2) (ρ := (fr (.o d) (.v (.int n)) (.v (kd k)) (.o (.list (wl n k (10 * n).toNat))) (.v (.int (sz n k))) (.v (.int g)) t7 s8 .u .u .u .u .u .u .u .u .u .u .u t20 .u .u .u .u sc)) ⟨d, t7, .u, .u, t20, .u, h, rfl, rfl⟩
  obtain ⟨ρ', h1, d', s7, s12, s15, s20, s21, sd, hs, rfl⟩ := l
  refine ⟨d', s7, s12, s15, s20, s21, sd, hs, ?_⟩
  have rg : rngOk 4 = true := rngOk_s (by decide) (by decide)
  unfold L10
  simp [rg]
  exact h1
theorem st_strikes (h : DS d) : ∃ d' c, DS d' ∧ 1 ≤ c ∧ c ≤ 4 ∧ L11 (fr (.o d) (.v (.int n)) (.v (kd k)) (.o (.list (wl n k (10 * n).toNat))) (.v (.int (sz n k))) (.v (.int g)) s7 s8 .u .u .u s12 .u .u s15 .u .u .u .u s20 s21 .u .u .u sc) = .nx (fr (.o d') (.v (.int n)) (.v (kd k)) (.o (.list (wl n k (10 * n).toNat))) (.v (.int (sz n k))) (.v (.int g)) s7 s8 (.v (.int c)) .u .u s12 .u .u s15 .u .u .u .u s20 s21 .u .u .u sc) := by
  obtain ⟨r, d', e1, sd, a, b⟩ := take_ok h (b := 4) (by decide)
  refine ⟨d', 1 + r, sd, by omega, by omega, ?_⟩
  unfold L11
  simp [e1]
end
end K77
end
section
set_option Elab.async false
set_option linter.all false
set_option maxRecDepth 100000
set_option maxHeartbeats 4000000
namespace K77
open PySem L2 Pd
section
variable {sc d : D} {n g c : Int} {k : Bool} {s7 s8 s12 s15 s20 s21 s10 s11 : Sl}
/-- how often each spot has been struck -/
def cts (n : Int) (k : Bool) (m : Int) : List D := (List.range n.toNat).map fun s : Nat => PyData.int (st n k s m)
theorem cts_len {m : Int} : (cts n k m).length = n.toNat := by simp [cts]
theorem cts_i {m s : Int} (h0 : 0 ≤ s) (h : s < n) : atI (cts n k m) s = some (.int (st n k s m)) := by
  have : (cts n k m)[s.toNat]? = some (.int (st n k s.toNat m)) := by
    unfold cts
    rw [List.getElem?_map, List.getElem?_range (by omega)]
    rfl
  have := atI_i h0 this
  rw [Int.toNat_of_nonneg h0] at this
  exact this
theorem cts_zero (R : Rb n) : (List.replicate n.toNat [PyData.int 0]).flatten = cts n k 0 := by
  refine List.ext_getElem ?_ fun i h1 h2 => ?_
  · simp [cts]
  · have hi : i < n.toNat := by simpa [cts] using h2
    simp [cts, st_zero R (by omega : (0 : Int) ≤ i) (by omega)]
theorem cts_set (R : Rb n) {m : Int} (hm : 0 ≤ m) : (cts n k m).set (sp n k m).toNat (.int (st n k (sp n k m) m + 1)) = cts n k (m + 1) := by
  have b := sp_b (k := k) R m
  refine List.ext_getElem ?_ fun i h1 h2 => ?_
  · simp [cts]
  · have hi : i < n.toNat := by simpa [cts] using h2
    rw [List.getElem_set]
    have e1 : (cts n k (m + 1))[i] = .int (st n k i (m + 1)) := by simp [cts]
    have e2 : ∀ h, (cts n k m)[i]'h = .int (st n k i m) := by simp [cts]
    rw [e1, e2, st_succ R (by omega : (0 : Int) ≤ i) (by omega) hm]
    by_cases c : sp n k m = i
    · rw [if_pos (by omega), if_pos c, ← c]
    · rw [if_neg (by omega), if_neg c, Int.add_zero]
theorem st_counts (R : Rb n) (n41 : n ≤ 41) : L12 (fr (.o d) (.v (.int n)) (.v (kd k)) (.o (.list (wl n k (10 * n).toNat))) (.v (.int (sz n k))) (.v (.int g)) s7 s8 (.v (.int c)) .u .u s12 .u .u s15 .u .u .u .u s20 s21 .u .u .u sc) = .nx (fr (.o d) (.v (.int n)) (.v (kd k)) (.o (.list (wl n k (10 * n).toNat))) (.v (.int (sz n k))) (.v (.int g)) s7 s8 (.v (.int c)) (.o (.list (cts n k 0))) .u s12 .u .u s15 .u .u .u .u s20 s21 .u .u .u sc) := by
  have n2 := R.n2
  have z := cts_zero (k := k) R
  have ln : lineOk (n.toNat) = true := lineOk_s (by omega)
  have mn : manyOk n = true := manyOk_s (by omega) (by omega)
  have l1 : lineOk 1 = true := lineOk_s (by decide)
  unfold L12
  rw [← z]
  simp [ln, mn, l1]
theorem st_first0 : L13 (fr (.o d) (.v (.int n)) (.v (kd k)) (.o (.list (wl n k (10 * n).toNat))) (.v (.int (sz n k))) (.v (.int g)) s7 s8 (.v (.int c)) (.o (.list (cts n k 0))) .u s12 .u .u s15 .u .u .u .u s20 s21 .u .u .u sc) = .nx (fr (.o d) (.v (.int n)) (.v (kd k)) (.o (.list (wl n k (10 * n).toNat))) (.v (.int (sz n k))) (.v (.int g)) s7 s8 (.v (.int c)) (.o (.list (cts n k 0))) (.v .none) s12 .u .u s15 .u .u .u .u s20 s21 .u .u .u sc) := by
  unfold L13
  simp
theorem min_iff (R : Rb n) {m : Int} (hc : 1 ≤ c) (hm : 0 ≤ m) : ∃ x, fMin [.list (cts n k m)] = some (.v (.int x)) ∧ (c ≤ x ↔ lf n k c ≤ m) := by
  have n2 := R.n2
  obtain ⟨s, hs, h1, h2⟩ := min_ex (f := fun s : Nat => st n k s m) (xs := List.range n.toNat) (by rw [Ne, List.range_eq_nil]; omega)
  rw [List.mem_range] at hs
  refine ⟨_, h2, fun h => ?_, fun h => lf_all R hc hm h (by omega) (by omega)⟩
  have a := h1 0 (List.mem_range.mpr (by omega))
  have b := h1 (n - 1).toNat (List.mem_range.mpr (by omega))
  rw [Int.toNat_of_nonneg (by omega)] at b
  exact lf_ends R hc hm (Int.le_trans h a) (Int.le_trans h b)
theorem lf_le (R : Rb n) (hc : 1 ≤ c) (c4 : c ≤ 4) : lf n k c ≤ 10 * n := by
  have n2 := R.n2
  have z : 2 ≤ sz n k ∧ sz n k ≤ 2 * n := by unfold sz; split <;> omega
  have a := Int.mul_le_mul_of_nonneg_right (by omega : c - 1 ≤ 3) (by omega : 0 ≤ sz n k)
  have b := Int.mul_le_mul_of_nonneg_right c4 (by omega : 0 ≤ n)
  unfold lf
  split <;> omega
def fst_ (n : Int) (k : Bool) (c m : Int) : D := if lf n k c ≤ m then .int (lf n k c) else .none
theorem st_first (R : Rb n) (n41 : n ≤ 41) (hc : 1 ≤ c) (c4 : c ≤ 4) {s8 : Sl} : ∃ s8' s10, L14 (fr (.o d) (.v (.int n)) (.v (kd k)) (.o (.list (wl n k (10 * n).toNat))) (.v (.int (sz n k))) (.v (.int g)) s7 s8 (.v (.int c)) (.o (.list (cts n k 0))) (.v .none) s12 .u .u s15 .u .u .u .u s20 s21 .u .u .u sc) = .nx (fr (.o d) (.v (.int n)) (.v (kd k)) (.o (.list (wl n k (10 * n).toNat))) (.v (.int (sz n k))) (.v (.int g)) s7 s8' (.v (.int c)) s10 (.v (.int (lf n k c))) s12 .u .u s15 .u .u .u .u s20 s21 .u .u .u sc) := by
  have n2 := R.n2
  have lp := lf_b (k := k) R hc
  have l := forF_at (g := tgN 8) (S := (sSeq (sPut false 10 (eOp (fIx false) (eVar 4) (eVar 8)) (eOp fAdd (eOp (fIx false) (eVar 10) (eOp (fIx false) (eVar 4) (eVar 8))) (eC (.int 1)))) (sIf (eAnd (eOpT fIsN (eVar 11) (eC .none)) (eOpT fGe (eBlt fMin (aCons (eVar 10) (aNil))) (eVar 9))) (sSet 11 (eOp fAdd (eVar 8) (eC (.int 1)))) (sNx)))) (ds := rngD 0 (10 * n).toNat)
    (fun i ρ => ∃ s8, ρ = (fr (.o d) (.v (.int n)) (.v (kd k)) (.o (.list (wl n k (10 * n).toNat))) (.v (.int (sz n k))) (.v (.int g)) s7 s8 (.v (.int c)) (.o (.list (cts n k i))) (.v (fst_ n k c i)) s12 .u .u s15 .u .u .u .u s20 s21 .u .u .u sc)) (by
      rintro i x hx ρ ⟨s8, rfl⟩
      have hi := get_lt hx
      rw [rngD_len] at hi
      have hx' : x = .int (0 + (i : Int)) := by
        unfold rngD at hx
        rw [List.getElem?_map, List.getElem?_range hi] at hx
        simpa using hx.symm
      rw [Int.zero_add] at hx'
      subst hx'
      have b := sp_b (k := k) R i
      have w := wl_i (n := n) (k := k) (m := (10 * n).toNat) (i := (i : Int)) (by omega) (by omega)
      have ci := cts_i (k := k) (m := (i : Int)) b.1 b.2
      have cs := cts_set (k := k) R (m := (i : Int)) (by omega)
      have ix : ixN n.toNat (sp n k i) = some (sp n k i).toNat := by
        have h0 : 0 ≤ sp n k i := b.1
        have h1 : (sp n k i).toNat < n.toNat := by omega
        simp [ixN, h0, h1]
        first | done | omega
      obtain ⟨y, ey, hy⟩ := min_iff (k := k) (c := c) R hc (m := (i : Int) + 1) (by omega)
      have e : ((i + 1 : Nat) : Int) = (i : Int) + 1 := rfl
      refine ⟨_, (fr (.o d) (.v (.int n)) (.v (kd k)) (.o (.list (wl n k (10 * n).toNat))) (.v (.int (sz n k))) (.v (.int g)) s7 (.v (.int (i : Int))) (.v (.int c)) (.o (.list (cts n k (i + 1 : Nat)))) (.v (fst_ n k c (i + 1 : Nat))) s12 .u .u s15 .u .u .u .u s20 s21 .u .u .u sc), rfl, .inl ?_, _, rfl⟩
      rw [e]
      unfold fst_
      by_cases c1 : lf n k c ≤ i
      · have c2 : lf n k c ≤ (i : Int) + 1 := by omega
        rw [if_pos c1, if_pos c2]
        generalize kd k = K at *
        generalize wl n k (10 * n).toNat = X at *
        generalize sz n k = y at *
        simp [w, ci, fPut, cts_len, ix, cs]
      · rw [if_neg c1]
        by_cases c2 : lf n k c ≤ (i : Int) + 1
        · have c3 : lf n k c = (i : Int) + 1 := by omega
          rw [if_pos c2, c3]
          have c4 : c ≤ y := hy.mpr c2
          generalize kd k = K at *
          generalize wl n k (10 * n).toNat = X at *
          generalize sz n k = y at *
          simp [w, ci, fPut, cts_len, ix, cs, ey, c4]
        · rw [if_neg c2]
          have c4 : ¬ c ≤ y := fun z => c2 (hy.mp z)
          generalize kd k = K at *
          generalize wl n k (10 * n).toNat = X at *
          generalize sz n k = y at *
          simp [w, ci, fPut, cts_len, ix, cs, ey, c4]) (ρ := (fr (.o d) (.v (.int n)) (.v (kd k)) (.o (.list (wl n k (10 * n).toNat))) (.v (.int (sz n k))) (.v (.int g)) s7 s8 (.v (.int c)) (.o (.list (cts n k 0))) (.v .none) s12 .u .u s15 .u .u .u .u s20 s21 .u .u .u sc)) ⟨s8, by
      have : fst_ n k c ((0 : Nat) : Int) = .none := by unfold fst_; rw [if_neg (by have : ((0 : Nat) : Int) = 0 := rfl; omega)]
      rw [this]
      rfl⟩
  obtain ⟨ρ', h1, s8', rfl⟩ := l
  rw [rngD_len] at h1
  have le := lf_le (k := k) R hc c4
  have e : fst_ n k c (((10 * n).toNat : Nat) : Int) = .int (lf n k c) := by
    unfold fst_
    rw [if_pos (by omega)]
  rw [e, show (((10 * n).toNat : Nat) : Int) = 10 * n by omega] at h1
  refine ⟨s8', .o (.list (cts n k (10 * n))), ?_⟩
  have rg : rngOk ((wl n k (10 * n).toNat).length : Int) = true := rngOk_s (by omega) (by rw [wl_len]; omega)
  have wlt : ((wl n k (10 * n).toNat).length : Int).toNat = (10 * n).toNat := by rw [wl_len]; omega
  unfold L14
  generalize kd k = K at *
  generalize wl n k (10 * n).toNat = X at *
  simp only [y_for, y_rng, y_aCons, y_aNil, y_blt, y_var]
  simp [rg]
  simp at wlt
  rw [wlt]
  exact h1
theorem st_told3 (R : Rb n) (hc : 1 ≤ c) : L15 (fr (.o d) (.v (.int n)) (.v (kd k)) (.o (.list (wl n k (10 * n).toNat))) (.v (.int (sz n k))) (.v (.int g)) s7 s8 (.v (.int c)) s10 (.v (.int (lf n k c))) s12 .u .u s15 .u .u .u .u s20 s21 .u .u .u sc) = .nx (fr (.o d) (.v (.int n)) (.v (kd k)) (.o (.list (wl n k (10 * n).toNat))) (.v (.int (sz n k))) (.v (.int g)) s7 s8 (.v (.int c)) s10 (.v (.int (lf n k c))) s12 .u .u s15 .u .u .u .u s20 s21 .u .u .u sc) := by
  have h := told3 (k := k) (b := 0) R hc
  unfold L15
  generalize kd k = K at *
  simp [h, alike_int]
end
end K77
end
section
set_option Elab.async false
set_option linter.all false
set_option maxRecDepth 100000
set_option maxHeartbeats 4000000
namespace K77
open PySem L2 Pd
section
variable {sc d : D} {n g c m : Int} {k : Bool} {s7 s8 s12 s15 s20 s21 s10 s11 : Sl}
theorem st_l (R : Rb n) (n41 : n ≤ 41) (h : DS d) : ∃ d' m, DS d' ∧ 0 ≤ m ∧ L16 (fr (.o d) (.v (.int n)) (.v (kd k)) (.o (.list (wl n k (10 * n).toNat))) (.v (.int (sz n k))) (.v (.int g)) s7 s8 (.v (.int c)) s10 (.v (.int (lf n k c))) s12 .u .u s15 .u .u .u .u s20 s21 .u .u .u sc) = .nx (fr (.o d') (.v (.int n)) (.v (kd k)) (.o (.list (wl n k (10 * n).toNat))) (.v (.int (sz n k))) (.v (.int g)) s7 s8 (.v (.int c)) s10 (.v (.int (lf n k c))) (.v (.int m)) .u .u s15 .u .u .u .u s20 s21 .u .u .u sc) := by
  have n2 := R.n2
  obtain ⟨r, d', e1, sd, a, b⟩ := take_ok h (b := 10 * n) (by omega)
  have mf : mulFits 10 n = true := fits_l (by decide)
  refine ⟨d', r, sd, a, ?_⟩
  unfold L16
  simp [mf, e1]
theorem cf_told (R : Rb n) {u : Int} (hu : 0 ≤ u) {e : Ev} {ρ : Pd.Env} (hρ : ρ.set 15 .u = ρ)
    (he : ∀ s : Nat, s < n → e (ρ.set 15 (.v (.int (s : Int)))) = .ok (.v (.int (st n k s u))) (ρ.set 15 (.v (.int (s : Int))))) :
    compF [15] (tgN 15) tTrue e (rngD 0 n.toNat) ρ = some (cts n k u, ρ) := by
  have cf := compF_map (vs := [15]) (g := tgN 15) (c := tTrue) (e := e) (ρ := ρ) (fun s : Nat => PyData.int (0 + (s : Int))) (fun _ => true) (fun s : Nat => PyData.int (st n k s u)) (List.range n.toNat) (by
    intro s hs
    rw [List.mem_range] at hs
    refine ⟨_, rfl, ρ.set 15 (.v (.int (0 + (s : Int)))), rfl, fun e => Bool.noConfusion e, fun _ => ⟨.v (.int (st n k s u)), ρ.set 15 (.v (.int (0 + (s : Int)))), ρ.set 15 (.v (.int (0 + (s : Int)))), ?_, rfl, ?_⟩⟩
    · rw [Int.zero_add]
      exact he s (by omega)
    · show (ρ.set 15 (.v (.int (0 + (s : Int))))).set 15 .u = ρ
      rw [List.set_set, hρ])
  rw [List.filter_eq_self.mpr (fun _ _ => rfl)] at cf
  exact cf
theorem st_told (R : Rb n) (n41 : n ≤ 41) (hm : 0 ≤ m) (hs : backS (some s15) = s15) : L17 (fr (.o d) (.v (.int n)) (.v (kd k)) (.o (.list (wl n k (10 * n).toNat))) (.v (.int (sz n k))) (.v (.int g)) s7 s8 (.v (.int c)) s10 (.v (.int (lf n k c))) (.v (.int m)) .u .u s15 .u .u .u .u s20 s21 .u .u .u sc) = .nx (fr (.o d) (.v (.int n)) (.v (kd k)) (.o (.list (wl n k (10 * n).toNat))) (.v (.int (sz n k))) (.v (.int g)) s7 s8 (.v (.int c)) (.o (.list (cts n k m))) (.v (.int (lf n k c))) (.v (.int m)) .u .u s15 .u .u .u .u s20 s21 .u .u .u sc) := by
  have n2 := R.n2
  have cf := cf_told (k := k) R hm (e := (eCall 5 fn__law_told (aCons (eC (.int 2)) (aCons (eVar 2) (aCons (eVar 3) (aCons (eVar 15) (aCons (eVar 12) (aNil)))))))) (ρ := (fr (.o d) (.v (.int n)) (.v (kd k)) (.o (.list (wl n k (10 * n).toNat))) (.v (.int (sz n k))) (.v (.int g)) s7 s8 (.v (.int c)) s10 (.v (.int (lf n k c))) (.v (.int m)) .u .u .u .u .u .u .u s20 s21 .u .u .u sc)) rfl (by
    intro s hs
    have := told2 (k := k) (a := s) (b := m) R (by omega) hs hm
    generalize kd k = K at *
    simp [this])
  have rg : rngOk n = true := rngOk_s (by omega) (by omega)
  have ln : lineOk n.toNat = true := lineOk_s (by omega)
  unfold L17
  generalize kd k = K at *
  simp [rg, ln]
  rw [cf]
  simp [hs]
theorem st_whole_ (R : Rb n) (n41 : n ≤ 41) (hc : 1 ≤ c) (hs : backS (some s15) = s15) : L18 (fr (.o d) (.v (.int n)) (.v (kd k)) (.o (.list (wl n k (10 * n).toNat))) (.v (.int (sz n k))) (.v (.int g)) s7 s8 (.v (.int c)) (.o (.list (cts n k m))) (.v (.int (lf n k c))) (.v (.int m)) .u .u s15 .u .u .u .u s20 s21 .u .u .u sc) = .nx (fr (.o d) (.v (.int n)) (.v (kd k)) (.o (.list (wl n k (10 * n).toNat))) (.v (.int (sz n k))) (.v (.int g)) s7 s8 (.v (.int c)) (.o (.list (cts n k m))) (.v (.int (lf n k c))) (.v (.int m)) (.o (.list (cts n k (sz n k * c)))) .u s15 .u .u .u .u s20 s21 .u .u .u sc) := by
  have n2 := R.n2
  have z := sz_b (k := k) R
  have h0 : 0 ≤ sz n k * c := Int.mul_nonneg (by omega) (by omega)
  have mf : mulFits (sz n k) c = true := fits_l (by omega)
  have cf := cf_told (k := k) R h0 (e := (eCall 5 fn__law_told (aCons (eC (.int 2)) (aCons (eVar 2) (aCons (eVar 3) (aCons (eVar 15) (aCons (eOp fMul (eVar 5) (eVar 9)) (aNil)))))))) (ρ := (fr (.o d) (.v (.int n)) (.v (kd k)) (.o (.list (wl n k (10 * n).toNat))) (.v (.int (sz n k))) (.v (.int g)) s7 s8 (.v (.int c)) (.o (.list (cts n k m))) (.v (.int (lf n k c))) (.v (.int m)) .u .u .u .u .u .u .u s20 s21 .u .u .u sc)) rfl (by
    intro s hs
    have := told2 (k := k) (a := s) (b := sz n k * c) R (by omega) hs h0
    generalize kd k = K at *
    generalize sz n k = y at *
    simp [this, mf])
  have rg : rngOk n = true := rngOk_s (by omega) (by omega)
  have ln : lineOk n.toNat = true := lineOk_s (by omega)
  unfold L18
  generalize kd k = K at *
  simp [rg, ln]
  rw [cf]
  simp [hs]
theorem cts_ints {u : Int} : cts n k u = ((List.range n.toNat).map fun s : Nat => st n k s u).map PyData.int := by
  rw [List.map_map]
  rfl
theorem ne_self {xs : List D} {u : Int} (h : cts n k u = xs) : fNe (.list (cts n k u)) (.list xs) = some false := by
  rw [← h, cts_ints, ne_ints]
  simp
theorem cts_twice (R : Rb n) (hc : 1 ≤ c) : cts n false (sz n false * c) = (List.replicate n.toNat [PyData.int (2 * c)]).flatten := by
  refine List.ext_getElem ?_ fun i h1 h2 => ?_
  · simp [cts]
  · have hi : i < n.toNat := by simpa [cts] using h1
    have := st_whole (k := false) (c := c) (s := i) R (by omega) (by omega) (by omega)
    rw [Int.mul_comm] at this
    simp [cts, this]
theorem cts_once (R : Rb n) (hc : 1 ≤ c) : cts n true (sz n true * c) = [PyData.int c] ++ (List.replicate (n - 2).toNat [PyData.int (2 * c)]).flatten ++ [PyData.int c] := by
  have n2 := R.n2
  refine List.ext_getElem ?_ fun i h1 h2 => ?_
  · simp [cts]
    omega
  · have hi : i < n.toNat := by simpa [cts] using h1
    have := st_whole (k := true) (c := c) (s := i) R (by omega) (by omega) (by omega)
    rw [Int.mul_comm] at this
    have e1 : (cts n true (sz n true * c))[i] = .int (if (i : Int) = 0 ∨ (i : Int) = n - 1 then c else 2 * c) := by simp [cts, this]
    rw [e1]
    by_cases c1 : i = 0
    · subst c1
      simp
    · by_cases c2 : i = n.toNat - 1
      · rw [if_pos (.inr (by omega)), List.getElem_append_right (by simp; omega)]
        simp
      · rw [if_neg (by omega), List.getElem_append_left (by simp; omega), List.getElem_append_right (by simp; omega)]
        simp
theorem st_two (R : Rb n) (n41 : n ≤ 41) (hc : 1 ≤ c) (c4 : c ≤ 4) (hm : 0 ≤ m) : L19 (fr (.o d) (.v (.int n)) (.v (kd k)) (.o (.list (wl n k (10 * n).toNat))) (.v (.int (sz n k))) (.v (.int g)) s7 s8 (.v (.int c)) (.o (.list (cts n k m))) (.v (.int (lf n k c))) (.v (.int m)) (.o (.list (cts n k (sz n k * c)))) .u s15 .u .u .u .u s20 s21 .u .u .u sc) = .nx (fr (.o d) (.v (.int n)) (.v (kd k)) (.o (.list (wl n k (10 * n).toNat))) (.v (.int (sz n k))) (.v (.int g)) s7 s8 (.v (.int c)) (.o (.list (cts n k m))) (.v (.int (lf n k c))) (.v (.int m)) (.o (.list (cts n k (sz n k * c)))) .u s15 .u .u .u .u s20 s21 .u .u .u sc) := by
  have n2 := R.n2
  have ht := is_twice k
  unfold L19
  cases k
  · obtain ⟨s, hs, h1, h2⟩ := min_ex (f := fun s : Nat => st n false s m) (xs := List.range n.toNat) (by rw [Ne, List.range_eq_nil]; omega)
    obtain ⟨u, hu, h3, h4⟩ := max_ex (f := fun s : Nat => st n false s m) (xs := List.range n.toNat) (by rw [Ne, List.range_eq_nil]; omega)
    rw [List.mem_range] at hs hu
    have al := st_alike R hm (by omega : (0 : Int) ≤ u) (by omega : (u : Int) < n) (by omega : (0 : Int) ≤ s) (by omega : (s : Int) < n)
    have al2 : ¬ 1 < st n false u m - st n false s m := by omega
    have w := ne_self (cts_twice R hc)
    have mf : mulFits 2 c = true := fits_l (by decide)
    have ln : lineOk (n.toNat) = true := lineOk_s (by omega)
    have mn : manyOk n = true := manyOk_s (by omega) (by omega)
    have l1 : lineOk 1 = true := lineOk_s (by decide)
    have h2' : fMin [.list (cts n false m)] = some (.v (.int (st n false s m))) := h2
    have h4' : fMax [.list (cts n false m)] = some (.v (.int (st n false u m))) := h4
    generalize kd false = K at *
    generalize cts n false (sz n false * c) = W at *
    simp at w
    simp [ht, h2', h4', al2, mf, ln, mn, l1, w]
  · generalize kd true = K at *
    simp [ht]
theorem st_one (R : Rb n) (n41 : n ≤ 41) (hc : 1 ≤ c) (c4 : c ≤ 4) : L20 (fr (.o d) (.v (.int n)) (.v (kd k)) (.o (.list (wl n k (10 * n).toNat))) (.v (.int (sz n k))) (.v (.int g)) s7 s8 (.v (.int c)) (.o (.list (cts n k m))) (.v (.int (lf n k c))) (.v (.int m)) (.o (.list (cts n k (sz n k * c)))) .u s15 .u .u .u .u s20 s21 .u .u .u sc) = .nx (fr (.o d) (.v (.int n)) (.v (kd k)) (.o (.list (wl n k (10 * n).toNat))) (.v (.int (sz n k))) (.v (.int g)) s7 s8 (.v (.int c)) (.o (.list (cts n k m))) (.v (.int (lf n k c))) (.v (.int m)) (.o (.list (cts n k (sz n k * c)))) .u s15 .u .u .u .u s20 s21 .u .u .u sc) := by
  have n2 := R.n2
  have ho := is_once k
  unfold L20
  cases k
  · generalize kd false = K at *
    simp [ho]
  · have w := ne_self (cts_once R hc)
    have mf : mulFits 2 c = true := fits_l (by decide)
    have ln : lineOk ((n - 2).toNat) = true := lineOk_s (by omega)
    have ln2 : lineOk (1 + (n - 2).toNat) = true := lineOk_s (by omega)
    have ln3 : lineOk (1 + (n - 2).toNat + 1) = true := lineOk_s (by omega)
    have mn : manyOk (n - 2) = true := manyOk_s (by omega) (by omega)
    have l1 : lineOk 1 = true := lineOk_s (by decide)
    generalize kd true = K at *
    generalize cts n true (sz n true * c) = W at *
    simp at w
    have ln4 : lineOk ((n - 2).toNat + 1) = true := lineOk_s (by omega)
    have ln5 : lineOk ((n - 2).toNat + 1 + 1) = true := lineOk_s (by omega)
    simp [ho, mf, mn, l1, ln, ln2, ln3, ln4, ln5, w]
end
end K77
end
section
set_option Elab.async false
set_option linter.all false
set_option maxRecDepth 100000
set_option maxHeartbeats 4000000
namespace K77
open PySem L2 Pd
section
variable {sc d : D} {n g f : Int} {k : Bool} {s4 s5 s7 s8 s9 s12 s13 s15 s20 s21 s10 s11 : Sl}
theorem st_far (h : DS d) : ∃ d' f, DS d' ∧ Rb f ∧ L21 (fr (.o d) (.v (.int n)) (.v (kd k)) s4 s5 (.v (.int g)) s7 s8 s9 s10 s11 s12 s13 .u s15 .u .u .u .u s20 s21 .u .u .u sc) = .nx (fr (.o d') (.v (.int n)) (.v (kd k)) s4 s5 (.v (.int g)) s7 s8 s9 s10 s11 s12 s13 (.v (.int f)) s15 .u .u .u .u s20 s21 .u .u .u sc) := by
  obtain ⟨r1, d1, e1, sd1, a1, b1⟩ := take_ok h (b := 997) (by decide)
  obtain ⟨r2, d2, e2, sd2, a2, b2⟩ := take_ok sd1 (b := 997) (by decide)
  have mf : mulFits r1 997 = true := fits_r (by decide)
  refine ⟨d2, 2 + r1 * 997 + r2, sd2, ⟨by omega, by omega⟩, ?_⟩
  unfold L21
  simp [e1, e2, mf]
theorem st_spot (R : Rb f) (hg : 0 ≤ g) : L22 (fr (.o d) (.v (.int n)) (.v (kd k)) s4 s5 (.v (.int g)) s7 s8 s9 s10 s11 s12 s13 (.v (.int f)) s15 .u .u .u .u s20 s21 .u .u .u sc) = .nx (fr (.o d) (.v (.int n)) (.v (kd k)) s4 s5 (.v (.int g)) s7 s8 s9 s10 s11 s12 s13 (.v (.int f)) (.v (.int (sp f k g))) .u .u .u .u s20 s21 .u .u .u sc) := by
  have h := told1 (k := k) (b := 0) R hg
  unfold L22
  generalize kd k = K at *
  simp [h]
theorem st_next (R : Rb f) (hg : 0 ≤ g) : L23 (fr (.o d) (.v (.int n)) (.v (kd k)) s4 s5 (.v (.int g)) s7 s8 s9 s10 s11 s12 s13 (.v (.int f)) (.v (.int (sp f k g))) .u .u .u .u s20 s21 .u .u .u sc) = .nx (fr (.o d) (.v (.int n)) (.v (kd k)) s4 s5 (.v (.int g)) s7 s8 s9 s10 s11 s12 s13 (.v (.int f)) (.v (.int (sp f k g))) .u .u .u .u s20 s21 .u .u .u sc) := by
  have b := sp_b (k := k) R g
  have t1 := told2 (k := k) (a := sp f k g) (b := g) R b.1 b.2 hg
  have t2 := told2 (k := k) (a := sp f k g) (b := g + 1) R b.1 b.2 (by omega)
  have e := st_succ (k := k) R b.1 b.2 hg
  rw [if_pos rfl] at e
  rw [e] at t2
  unfold L23
  generalize kd k = K at *
  generalize sp f k g = s at *
  simp [b.1, b.2, t1, t2]
theorem st_behind (R : Rb f) (hg : 0 ≤ g) : L24 (fr (.o d) (.v (.int n)) (.v (kd k)) s4 s5 (.v (.int g)) s7 s8 s9 s10 s11 s12 s13 (.v (.int f)) (.v (.int (sp f k g))) .u .u .u .u s20 s21 .u .u .u sc) = .nx (fr (.o d) (.v (.int n)) (.v (kd k)) s4 s5 (.v (.int g)) s7 s8 s9 s10 s11 s12 s13 (.v (.int f)) (.v (.int (sp f k g))) (.v (.int (lf f k (1 + g)))) .u .u .u s20 s21 .u .u .u sc) := by
  have h := told3 (k := k) (a := 1 + g) (b := 0) R (by omega)
  unfold L24
  generalize kd k = K at *
  simp [h]
theorem cf_one {u : Int} {e : Ev} {ρ : Pd.Env} (hρ : ρ.set 23 .u = ρ) (xs : List Int)
    (he : ∀ s ∈ xs, e (ρ.set 23 (.v (.int s))) = .ok (.v (.int (st f k s u))) (ρ.set 23 (.v (.int s)))) :
    compF [23] (tgN 23) tTrue e (xs.map PyData.int) ρ = some (xs.map fun s => PyData.int (st f k s u), ρ) := by
  have cf := compF_map (vs := [23]) (g := tgN 23) (c := tTrue) (e := e) (ρ := ρ) PyData.int (fun _ => true) (fun s : Int => PyData.int (st f k s u)) xs (by
    intro s hs
    refine ⟨_, rfl, ρ.set 23 (.v (.int s)), rfl, fun e => Bool.noConfusion e, fun _ => ⟨.v (.int (st f k s u)), ρ.set 23 (.v (.int s)), ρ.set 23 (.v (.int s)), he s hs, rfl, ?_⟩⟩
    show (ρ.set 23 (.v (.int s))).set 23 .u = ρ
    rw [List.set_set, hρ])
  rw [List.filter_eq_self.mpr (fun _ _ => rfl)] at cf
  exact cf
theorem st_least (R : Rb f) (hg : 0 ≤ g) : L25 (fr (.o d) (.v (.int n)) (.v (kd k)) s4 s5 (.v (.int g)) s7 s8 s9 s10 s11 s12 s13 (.v (.int f)) (.v (.int (sp f k g))) (.v (.int (lf f k (1 + g)))) .u .u .u s20 s21 .u .u .u sc) = .nx (fr (.o d) (.v (.int n)) (.v (kd k)) s4 s5 (.v (.int g)) s7 s8 s9 s10 s11 s12 s13 (.v (.int f)) (.v (.int (sp f k g))) (.v (.int (lf f k (1 + g)))) (.v (.int (1 + g))) .u .u s20 s21 .u .u .u sc) := by
  have f2 := R.n2
  have lp := lf_b (k := k) (c := 1 + g) R (by omega)
  have ins : ∀ s ∈ [0, 1, f / 2, f - 2, f - 1], 0 ≤ s ∧ s < f := by
    intro s hs
    simp only [List.mem_cons, List.mem_nil_iff, or_false] at hs
    rcases hs with rfl | rfl | rfl | rfl | rfl <;> omega
  have cf := cf_one (f := f) (k := k) (u := lf f k (1 + g)) (e := (eCall 5 fn__law_told (aCons (eC (.int 2)) (aCons (eVar 14) (aCons (eVar 3) (aCons (eVar 23) (aCons (eVar 16) (aNil)))))))) (ρ := (fr (.o d) (.v (.int n)) (.v (kd k)) s4 s5 (.v (.int g)) s7 s8 s9 s10 s11 s12 s13 (.v (.int f)) (.v (.int (sp f k g))) (.v (.int (lf f k (1 + g)))) .u .u .u s20 s21 .u .u .u sc)) rfl [0, 1, f / 2, f - 2, f - 1] (by
    intro s hs
    have := told2 (k := k) (a := s) (b := lf f k (1 + g)) R (ins s hs).1 (ins s hs).2 (by omega)
    generalize kd k = K at *
    generalize lf f k (1 + g) = b at *
    simp [this])
  have mn := min_of (fun s => st f k s (lf f k (1 + g))) (xs := [0, 1, f / 2, f - 2, f - 1]) (v := 1 + g) (fun s hs => lf_all R (by omega) (by omega) (Int.le_refl _) (ins s hs).1 (ins s hs).2) ⟨f - 1, by simp, st_last R (by omega)⟩
  have l5 : lineOk 5 = true := lineOk_s (by decide)
  unfold L25
  generalize kd k = K at *
  simp only [List.map_cons, List.map_nil] at cf mn
  simp [l5]
  rw [cf]
  simp [mn]
theorem st_more (R : Rb f) (hg : 0 ≤ g) : L26 (fr (.o d) (.v (.int n)) (.v (kd k)) s4 s5 (.v (.int g)) s7 s8 s9 s10 s11 s12 s13 (.v (.int f)) (.v (.int (sp f k g))) (.v (.int (lf f k (1 + g)))) (.v (.int (1 + g))) .u .u s20 s21 .u .u .u sc) = .nx (fr (.o d) (.v (.int n)) (.v (kd k)) s4 s5 (.v (.int g)) s7 s8 s9 s10 s11 s12 s13 (.v (.int f)) (.v (.int (sp f k g))) (.v (.int (lf f k (1 + g)))) (.v (.int (1 + g))) .u .u s20 s21 .u .u .u sc) := by
  have f2 := R.n2
  have lp := lf_b (k := k) (c := 1 + g) R (by omega)
  have ins : ∀ s ∈ [0, f - 1], 0 ≤ s ∧ s < f := by
    intro s hs
    simp only [List.mem_cons, List.mem_nil_iff, or_false] at hs
    rcases hs with rfl | rfl <;> omega
  have cf := cf_one (f := f) (k := k) (u := lf f k (1 + g) - 1) (e := (eCall 5 fn__law_told (aCons (eC (.int 2)) (aCons (eVar 14) (aCons (eVar 3) (aCons (eVar 23) (aCons (eOp fSub (eVar 16) (eC (.int 1))) (aNil)))))))) (ρ := (fr (.o d) (.v (.int n)) (.v (kd k)) s4 s5 (.v (.int g)) s7 s8 s9 s10 s11 s12 s13 (.v (.int f)) (.v (.int (sp f k g))) (.v (.int (lf f k (1 + g)))) (.v (.int (1 + g))) .u .u s20 s21 .u .u .u sc)) rfl [0, f - 1] (by
    intro s hs
    have := told2 (k := k) (a := s) (b := lf f k (1 + g) - 1) R (ins s hs).1 (ins s hs).2 (by omega)
    generalize kd k = K at *
    generalize lf f k (1 + g) = b at *
    simp [this])
  obtain ⟨s, hs, h1, h2⟩ := min_ex (fun s => st f k s (lf f k (1 + g) - 1)) (xs := [0, f - 1]) (by simp)
  have lt : ¬ 1 + g ≤ st f k s (lf f k (1 + g) - 1) := fun z => by
    have a := h1 0 (by simp)
    have b := h1 (f - 1) (by simp)
    have := lf_ends R (by omega : 1 ≤ 1 + g) (by omega : 0 ≤ lf f k (1 + g) - 1) (Int.le_trans z a) (Int.le_trans z b)
    omega
  have l2 : lineOk 2 = true := lineOk_s (by decide)
  unfold L26
  generalize kd k = K at *
  simp only [List.map_cons, List.map_nil] at cf h2
  simp [l2]
  rw [cf]
  simp [h2, lt]
abbrev w6 : List D := [.str "range", .str "range", .str "range", .str "range", .str "range", .str "range"]
abbrev w9 : List D := [.str "range", .str "range", .str "range", .str "range", .str "range", .str "range", .str "range", .str "range", .str "range"]
abbrev z6 : List D := [.str "none", .str "none", .str "none", .str "none", .str "none", .str "none"]
theorem st_words : L27 (fr (.o d) (.v (.int n)) (.v (kd k)) s4 s5 (.v (.int g)) s7 s8 s9 s10 s11 s12 s13 (.v (.int f)) (.v (.int (sp f k g))) (.v (.int (lf f k (1 + g)))) (.v (.int (1 + g))) .u .u s20 s21 .u .u .u sc) = .nx (fr (.o d) (.v (.int n)) (.v (kd k)) s4 s5 (.v (.int g)) s7 s8 s9 s10 s11 s12 s13 (.v (.int f)) (.v (.int (sp f k g))) (.v (.int (lf f k (1 + g)))) (.v (.int (1 + g))) (.o (.list w6)) .u s20 s21 .u .u .u sc) := by
  have cf := compF_map (vs := [24, 23]) (g := tgT [tgN 24, tgN 23]) (c := tTrue) (e := (eCall 5 fn__law_told (aCons (eVar 24) (aCons (eVar 23) (aCons (eVar 3) (aCons (eC (.int 1)) (aCons (eC (.int 1)) (aNil)))))))) (ρ := (fr (.o d) (.v (.int n)) (.v (kd k)) s4 s5 (.v (.int g)) s7 s8 s9 s10 s11 s12 s13 (.v (.int f)) (.v (.int (sp f k g))) (.v (.int (lf f k (1 + g)))) (.v (.int (1 + g))) .u .u s20 s21 .u .u .u sc)) (fun p : Int × Int => PyData.tuple [.int p.1, .int p.2]) (fun _ => true) (fun _ => .str "range") [(0, 1), (0, 1000001), (1, 1), (2, 1), (3, 1), (3, 1000001)] (by
    rintro ⟨a, b⟩ hp
    have ha : (a = 0 ∨ a = 1 ∨ a = 2 ∨ a = 3) ∧ (b < 2 ∨ 1000000 < b) := by
      simp only [List.mem_cons, List.mem_nil_iff, or_false, Prod.mk.injEq] at hp
      omega
    have h := told_n (n := b) (K := kd k) (a := 1) (b := 1) ha.2 ha.1
    refine ⟨(fr (.o d) (.v (.int n)) (.v (kd k)) s4 s5 (.v (.int g)) s7 s8 s9 s10 s11 s12 s13 (.v (.int f)) (.v (.int (sp f k g))) (.v (.int (lf f k (1 + g)))) (.v (.int (1 + g))) .u .u s20 s21 .u (.v (.int b)) (.v (.int a)) sc), rfl, (fr (.o d) (.v (.int n)) (.v (kd k)) s4 s5 (.v (.int g)) s7 s8 s9 s10 s11 s12 s13 (.v (.int f)) (.v (.int (sp f k g))) (.v (.int (lf f k (1 + g)))) (.v (.int (1 + g))) .u .u s20 s21 .u (.v (.int b)) (.v (.int a)) sc), rfl, fun e => Bool.noConfusion e, fun _ => ⟨.v (.str "range"), (fr (.o d) (.v (.int n)) (.v (kd k)) s4 s5 (.v (.int g)) s7 s8 s9 s10 s11 s12 s13 (.v (.int f)) (.v (.int (sp f k g))) (.v (.int (lf f k (1 + g)))) (.v (.int (1 + g))) .u .u s20 s21 .u (.v (.int b)) (.v (.int a)) sc), (fr (.o d) (.v (.int n)) (.v (kd k)) s4 s5 (.v (.int g)) s7 s8 s9 s10 s11 s12 s13 (.v (.int f)) (.v (.int (sp f k g))) (.v (.int (lf f k (1 + g)))) (.v (.int (1 + g))) .u .u s20 s21 .u (.v (.int b)) (.v (.int a)) sc), ?_, rfl, rfl⟩⟩
    generalize kd k = K at *
    simp [h])
  rw [List.filter_eq_self.mpr (fun _ _ => rfl)] at cf
  simp only [List.map_cons, List.map_nil] at cf
  have l2 : lineOk 2 = true := lineOk_s (by decide)
  have l6 : lineOk 6 = true := lineOk_s (by decide)
  unfold L27
  generalize kd k = K at *
  simp [l2, l6]
  rw [cf]
  simp
theorem st_words2 (R : Rb n) : L28 (fr (.o d) (.v (.int n)) (.v (kd k)) s4 s5 (.v (.int g)) s7 s8 s9 s10 s11 s12 s13 (.v (.int f)) (.v (.int (sp f k g))) (.v (.int (lf f k (1 + g)))) (.v (.int (1 + g))) (.o (.list w6)) .u s20 s21 .u .u .u sc) = .nx (fr (.o d) (.v (.int n)) (.v (kd k)) s4 s5 (.v (.int g)) s7 s8 s9 s10 s11 s12 s13 (.v (.int f)) (.v (.int (sp f k g))) (.v (.int (lf f k (1 + g)))) (.v (.int (1 + g))) (.o (.list w9)) .u s20 s21 .u .u .u sc) := by
  have n2 := R.n2
  have h1 := told1_ex (k := k) (a := -1) (b := 0) R (by decide)
  have h2 := told2_ex (k := k) (a := 0) (b := -1) R (by decide) (by omega) (by decide)
  have h3 := told3_ex (k := k) (a := 0) (b := 0) R (by decide)
  have l9 : lineOk 9 = true := lineOk_s (by decide)
  have l3 : lineOk 3 = true := lineOk_s (by decide)
  unfold L28
  generalize kd k = K at *
  simp [h1, h2, h3, l3, l9]
theorem no_kind {x : Str} (h : (Str.ofString "once" == x) = false ∧ (Str.ofString "twice" == x) = false) : fNotIn false (.str x) cd_KINDS = some true := by
  simp [fNotIn, fIn, cd_KINDS, fit, fitAll, PyData.eqv, h.1, h.2]
theorem st_none (R : Rb n) : L29 (fr (.o d) (.v (.int n)) (.v (kd k)) s4 s5 (.v (.int g)) s7 s8 s9 s10 s11 s12 s13 (.v (.int f)) (.v (.int (sp f k g))) (.v (.int (lf f k (1 + g)))) (.v (.int (1 + g))) (.o (.list w9)) .u s20 s21 .u .u .u sc) = .nx (fr (.o d) (.v (.int n)) (.v (kd k)) s4 s5 (.v (.int g)) s7 s8 s9 s10 s11 s12 s13 (.v (.int f)) (.v (.int (sp f k g))) (.v (.int (lf f k (1 + g)))) (.v (.int (1 + g))) (.o (.list w9)) (.o (.list z6)) s20 s21 .u .u .u sc) := by
  have n2 := R.n2
  have cf := compF_map (vs := [24, 23]) (g := tgT [tgN 24, tgN 23]) (c := tTrue) (e := (eCall 5 fn__law_told (aCons (eVar 24) (aCons (eVar 2) (aCons (eVar 23) (aCons (eC (.int 1)) (aCons (eC (.int 1)) (aNil)))))))) (ρ := (fr (.o d) (.v (.int n)) (.v (kd k)) s4 s5 (.v (.int g)) s7 s8 s9 s10 s11 s12 s13 (.v (.int f)) (.v (.int (sp f k g))) (.v (.int (lf f k (1 + g)))) (.v (.int (1 + g))) (.o (.list w9)) .u s20 s21 .u .u .u sc)) (fun p : Int × Str => PyData.tuple [.int p.1, .str p.2]) (fun _ => true) (fun _ => .str "none") [(0, "thrice"), (1, ""), (2, "Once"), (3, "twice ")] (by
    rintro ⟨a, b⟩ hp
    have ha : (a = 0 ∨ a = 1 ∨ a = 2 ∨ a = 3) ∧ (Str.ofString "once" == b) = false ∧ (Str.ofString "twice" == b) = false := by
      simp only [List.mem_cons, List.mem_nil_iff, or_false, Prod.mk.injEq] at hp
      rcases hp with ⟨rfl, rfl⟩ | ⟨rfl, rfl⟩ | ⟨rfl, rfl⟩ | ⟨rfl, rfl⟩ <;> exact ⟨by omega, by decide, by decide⟩
    have h := told_kind (n := n) (K := .str b) (a := 1) (b := 1) R (no_kind ha.2) ha.1
    refine ⟨(fr (.o d) (.v (.int n)) (.v (kd k)) s4 s5 (.v (.int g)) s7 s8 s9 s10 s11 s12 s13 (.v (.int f)) (.v (.int (sp f k g))) (.v (.int (lf f k (1 + g)))) (.v (.int (1 + g))) (.o (.list w9)) .u s20 s21 .u (.v (.str b)) (.v (.int a)) sc), rfl, (fr (.o d) (.v (.int n)) (.v (kd k)) s4 s5 (.v (.int g)) s7 s8 s9 s10 s11 s12 s13 (.v (.int f)) (.v (.int (sp f k g))) (.v (.int (lf f k (1 + g)))) (.v (.int (1 + g))) (.o (.list w9)) .u s20 s21 .u (.v (.str b)) (.v (.int a)) sc), rfl, fun e => Bool.noConfusion e, fun _ => ⟨.v (.str "none"), (fr (.o d) (.v (.int n)) (.v (kd k)) s4 s5 (.v (.int g)) s7 s8 s9 s10 s11 s12 s13 (.v (.int f)) (.v (.int (sp f k g))) (.v (.int (lf f k (1 + g)))) (.v (.int (1 + g))) (.o (.list w9)) .u s20 s21 .u (.v (.str b)) (.v (.int a)) sc), (fr (.o d) (.v (.int n)) (.v (kd k)) s4 s5 (.v (.int g)) s7 s8 s9 s10 s11 s12 s13 (.v (.int f)) (.v (.int (sp f k g))) (.v (.int (lf f k (1 + g)))) (.v (.int (1 + g))) (.o (.list w9)) .u s20 s21 .u (.v (.str b)) (.v (.int a)) sc), ?_, rfl, rfl⟩⟩
    generalize kd k = K at *
    simp [h])
  have cf2 := compF_map (vs := [23]) (g := tgN 23) (c := tTrue) (e := (eCall 5 fn__law_told (aCons (eC (.int 2)) (aCons (eVar 2) (aCons (eVar 3) (aCons (eVar 23) (aCons (e1 fNeg (eC (.int 1))) (aNil)))))))) (ρ := (fr (.o d) (.v (.int n)) (.v (kd k)) s4 s5 (.v (.int g)) s7 s8 s9 s10 s11 s12 s13 (.v (.int f)) (.v (.int (sp f k g))) (.v (.int (lf f k (1 + g)))) (.v (.int (1 + g))) (.o (.list w9)) .u s20 s21 .u .u .u sc)) PyData.int (fun _ => true) (fun _ => .str "none") [-1, n] (by
    intro a ha
    have h := told2_none (n := n) (k := k) (a := a) (b := -1) R (by
      simp only [List.mem_cons, List.mem_nil_iff, or_false] at ha
      omega)
    refine ⟨(fr (.o d) (.v (.int n)) (.v (kd k)) s4 s5 (.v (.int g)) s7 s8 s9 s10 s11 s12 s13 (.v (.int f)) (.v (.int (sp f k g))) (.v (.int (lf f k (1 + g)))) (.v (.int (1 + g))) (.o (.list w9)) .u s20 s21 .u (.v (.int a)) .u sc), rfl, (fr (.o d) (.v (.int n)) (.v (kd k)) s4 s5 (.v (.int g)) s7 s8 s9 s10 s11 s12 s13 (.v (.int f)) (.v (.int (sp f k g))) (.v (.int (lf f k (1 + g)))) (.v (.int (1 + g))) (.o (.list w9)) .u s20 s21 .u (.v (.int a)) .u sc), rfl, fun e => Bool.noConfusion e, fun _ => ⟨.v (.str "none"), (fr (.o d) (.v (.int n)) (.v (kd k)) s4 s5 (.v (.int g)) s7 s8 s9 s10 s11 s12 s13 (.v (.int f)) (.v (.int (sp f k g))) (.v (.int (lf f k (1 + g)))) (.v (.int (1 + g))) (.o (.list w9)) .u s20 s21 .u (.v (.int a)) .u sc), (fr (.o d) (.v (.int n)) (.v (kd k)) s4 s5 (.v (.int g)) s7 s8 s9 s10 s11 s12 s13 (.v (.int f)) (.v (.int (sp f k g))) (.v (.int (lf f k (1 + g)))) (.v (.int (1 + g))) (.o (.list w9)) .u s20 s21 .u (.v (.int a)) .u sc), ?_, rfl, rfl⟩⟩
    generalize kd k = K at *
    simp [h])
  rw [List.filter_eq_self.mpr (fun _ _ => rfl)] at cf cf2
  simp only [List.map_cons, List.map_nil] at cf cf2
  have l2 : lineOk 2 = true := lineOk_s (by decide)
  have l4 : lineOk 4 = true := lineOk_s (by decide)
  have l6 : lineOk 6 = true := lineOk_s (by decide)
  unfold L29
  generalize kd k = K at *
  simp [l2, l4, l6]
  rw [cf]
  simp [l2, l4, l6]
  rw [cf2]
  simp [l2, l4, l6]
theorem st_ret : Good (L30 (fr (.o d) (.v (.int n)) (.v (kd k)) s4 s5 (.v (.int g)) s7 s8 s9 s10 s11 s12 s13 (.v (.int f)) (.v (.int (sp f k g))) (.v (.int (lf f k (1 + g)))) (.v (.int (1 + g))) (.o (.list w9)) (.o (.list z6)) s20 s21 .u .u .u sc)) := by
  refine ⟨(fr (.o d) (.v (.int n)) (.v (kd k)) s4 s5 (.v (.int g)) s7 s8 s9 s10 s11 s12 s13 (.v (.int f)) (.v (.int (sp f k g))) (.v (.int (lf f k (1 + g)))) (.v (.int (1 + g))) (.o (.list w9)) (.o (.list z6)) s20 s21 .u .u .u sc), ?_⟩
  have l9 : lineOk 9 = true := lineOk_s (by decide)
  have l6 : lineOk 6 = true := lineOk_s (by decide)
  have l1 : lineOk 1 = true := lineOk_s (by decide)
  unfold L30
  generalize kd k = K at *
  simp [l1, l6, l9, fEq, fit, fitAll, PyData.eqv, PyData.eqvAll, List.replicate]
end
theorem whole (ns : List Int) (h : ns.length ≤ 63) : Good (bd_law (fr .u .u .u .u .u .u .u .u .u .u .u .u .u .u .u .u .u .u .u .u .u .u .u .u (scrD (ns.map PyData.int)))) := by
  obtain ⟨d0, e0, s0⟩ := draws_ok h
  generalize hsc : scrD (ns.map PyData.int) = sc at *
  obtain ⟨d1, n, s1, n2, n41, t1⟩ := st_n (sc := sc) s0
  have R : Rb n := ⟨n2, by omega⟩
  obtain ⟨d2, k, s2, t2⟩ := st_kind (sc := sc) (n := n) s1
  obtain ⟨d3, g, s7, s3, g0, t3⟩ := st_great (sc := sc) (n := n) (k := k) s2
  obtain ⟨d4, s8, s20, s4, t4⟩ := st_letters (sc := sc) (s7 := s7) (k := k) R n41 g0 s3
  obtain ⟨d5, s7', s12, s15, s20', s21, s5, hs, t5⟩ := st_turns (sc := sc) (t7 := s7) (s8 := s8) (t20 := s20) (k := k) R n41 g0 s4
  obtain ⟨d6, c, s6, c1, c4, t6⟩ := st_strikes (sc := sc) (n := n) (g := g) (k := k) (s7 := s7') (s8 := s8) (s12 := s12) (s15 := s15) (s20 := s20') (s21 := s21) s5
  obtain ⟨s8', s10, t7⟩ := st_first (sc := sc) (d := d6) (g := g) (k := k) (s7 := s7') (s8 := s8) (s12 := s12) (s15 := s15) (s20 := s20') (s21 := s21) R n41 c1 c4
  obtain ⟨d7, m, s7_, m0, t8⟩ := st_l (sc := sc) (g := g) (k := k) (c := c) (s7 := s7') (s8 := s8') (s12 := s12) (s15 := s15) (s20 := s20') (s21 := s21) (s10 := s10) R n41 s6
  obtain ⟨d8, f, s8_, Rf, t9⟩ := st_far (sc := sc) (n := n) (g := g) (k := k) (s4 := .o (.list (wl n k (10 * n).toNat))) (s5 := .v (.int (sz n k))) (s7 := s7') (s8 := s8') (s9 := .v (.int c)) (s10 := .o (.list (cts n k m))) (s11 := .v (.int (lf n k c))) (s12 := .v (.int m)) (s13 := .o (.list (cts n k (sz n k * c)))) (s15 := s15) (s20 := s20') (s21 := s21) s7_
  have t0 : L0 (fr .u .u .u .u .u .u .u .u .u .u .u .u .u .u .u .u .u .u .u .u .u .u .u .u sc) = .nx (fr (.o d0) .u .u .u .u .u .u .u .u .u .u .u .u .u .u .u .u .u .u .u .u .u .u .u sc) := by
    subst hsc
    unfold L0
    simp [e0, scrD]
  exact good_seq t0 (good_seq t1 (good_seq t2 (good_seq (st_walk R n41) (good_seq (st_size R) (good_seq (st_rounds R n41) (good_seq (st_noless R n41) (good_seq st_great0 (good_seq t3 (good_seq t4 (good_seq t5 (good_seq t6 (good_seq (st_counts R n41) (good_seq st_first0 (good_seq t7 (good_seq (st_told3 R c1) (good_seq t8 (good_seq (st_told R n41 m0 hs) (good_seq (st_whole_ R n41 c1 hs) (good_seq (st_two R n41 c1 c4 m0) (good_seq (st_one R n41 c1 c4) (good_seq t9 (good_seq (st_spot Rf g0) (good_seq (st_next Rf g0) (good_seq (st_behind Rf g0) (good_seq (st_least Rf g0) (good_seq (st_more Rf g0) (good_seq st_words (good_seq (st_words2 R) (good_seq (st_none R) st_ret)))))))))))))))))))))))))))))
theorem plain_ : ∀ ns : List Int, ns.length ≤ 63 → fn_law [scrD (ns.map PyData.int)] = .ret (.bool true) [] := by
  intro ns h
  obtain ⟨ρ, e⟩ := whole ns h
  unfold fn_law toFn initE
  simp [inSl]
  rw [e]
  simp [outsOf, ioIx]
end K77
end
section
set_option Elab.async false
set_option linter.all false
set_option maxRecDepth 100000
set_option maxHeartbeats 4000000
namespace K77
open PySem L2 PyProof.Rows L2H Pd
/-- the plain law -/
abbrev Plain : Prop := ∀ ns : List Int, ns.length ≤ 63 → (∀ z ∈ ns, Builtin.Int.intBits z ≤ 1048576) → fn_law [scrD (ns.map PyData.int)] = .ret (.bool true) []
def ecOf (CPrintError COutOfRange CMalformed CNotThere CRefused CTooMuch : Addr) (n : String) : Addr := if n = "PrintError" then CPrintError else if n = "OutOfRange" then COutOfRange else if n = "Malformed" then CMalformed else if n = "NotThere" then CNotThere else if n = "Refused" then CRefused else if n = "TooMuch" then CTooMuch else 0
theorem all_mk (plain : Plain) {P : Program} {w : World} {K : PySem.W.Frag} {h : Heap} {mg : Str → Option Value} {fa f0 f1 f2 f3 f4 f5 f6 f7 f8 f9 f10 f11 f12 f13 f14 CPrintError COutOfRange CMalformed CNotThere CRefused CTooMuch : Addr} {od0 an0 od1 an1 od2 an2 od3 an3 od4 an4 od5 an5 od6 an6 od7 an7 od8 an8 od9 an9 od10 an10 od11 an11 od12 an12 od13 an13 od14 an14 : Option Addr} {sl0 sl1 sl2 sl3 sl4 sl5 sl6 sl7 sl8 sl9 sl10 sl11 sl12 sl13 sl14 : Array (Option Value)} {oc0 kV0 dc0 pm0 cd0 ct0 oc1 kV1 dc1 pm1 cd1 ct1 oc2 kV2 dc2 pm2 cd2 ct2 oc3 kV3 dc3 pm3 cd3 ct3 oc4 kV4 dc4 pm4 cd4 ct4 oc5 kV5 dc5 pm5 cd5 ct5 oc6 kV6 dc6 pm6 cd6 ct6 oc7 kV7 dc7 pm7 cd7 ct7 oc8 kV8 dc8 pm8 cd8 ct8 oc9 kV9 dc9 pm9 cd9 ct9 oc10 kV10 dc10 pm10 cd10 ct10 oc11 kV11 dc11 pm11 cd11 ct11 oc12 kV12 dc12 pm12 cd12 ct12 oc13 kV13 dc13 pm13 cd13 ct13 oc14 kV14 dc14 pm14 cd14 ct14 : Value} {tt_FEWEST_SPOTS tt_MOST_SPOTS : Tok} {tp_KINDS : Addr} {td_KINDS : Option Addr} {tn_KINDS : Nat} {ts_KINDS : Array (Option Value)} {tt_KINDS_0 tt_KINDS_1 : Tok} (X : K.In h) (G : h.Ns mainGlobals mg) (hfa : mg "law" = some (.ref fa))
    (a0 : PySem.W.nsIn K mainGlobals "_law_draws" = some (some (.ref f0)))
    (l0 : K.lookup f0 = some ⟨oc0, od0, .func (PySem.W.fnOf "_law_draws" "_law_draws" (defArgs s__law_draws) (defBody s__law_draws) (defScope s__law_draws) .none kV0 dc0 pm0 an0 cd0 ct0), sl0⟩)
    (c0 : PySem.W.codeIn K cd0 "_law_draws" = true)
    (k0 : PySem.W.keepIn K (.ref f0) = true)
    (a1 : PySem.W.nsIn K mainGlobals "_law_walk" = some (some (.ref f1)))
    (l1 : K.lookup f1 = some ⟨oc1, od1, .func (PySem.W.fnOf "_law_walk" "_law_walk" (defArgs s__law_walk) (defBody s__law_walk) (defScope s__law_walk) .none kV1 dc1 pm1 an1 cd1 ct1), sl1⟩)
    (c1 : PySem.W.codeIn K cd1 "_law_walk" = true)
    (k1 : PySem.W.keepIn K (.ref f1) = true)
    (a2 : PySem.W.nsIn K mainGlobals "is_number" = some (some (.ref f2)))
    (l2 : K.lookup f2 = some ⟨oc2, od2, .func (PySem.W.fnOf "is_number" "is_number" (defArgs s_is_number) (defBody s_is_number) (defScope s_is_number) .none kV2 dc2 pm2 an2 cd2 ct2), sl2⟩)
    (c2 : PySem.W.codeIn K cd2 "is_number" = true)
    (k2 : PySem.W.keepIn K (.ref f2) = true)
    (a3 : PySem.W.nsIn K mainGlobals "check_ribbon" = some (some (.ref f3)))
    (l3 : K.lookup f3 = some ⟨oc3, od3, .func (PySem.W.fnOf "check_ribbon" "check_ribbon" (defArgs s_check_ribbon) (defBody s_check_ribbon) (defScope s_check_ribbon) .none kV3 dc3 pm3 an3 cd3 ct3), sl3⟩)
    (c3 : PySem.W.codeIn K cd3 "check_ribbon" = true)
    (k3 : PySem.W.keepIn K (.ref f3) = true)
    (a4 : PySem.W.nsIn K mainGlobals "round_of_ribbon" = some (some (.ref f4)))
    (l4 : K.lookup f4 = some ⟨oc4, od4, .func (PySem.W.fnOf "round_of_ribbon" "round_of_ribbon" (defArgs s_round_of_ribbon) (defBody s_round_of_ribbon) (defScope s_round_of_ribbon) .none kV4 dc4 pm4 an4 cd4 ct4), sl4⟩)
    (c4 : PySem.W.codeIn K cd4 "round_of_ribbon" = true)
    (k4 : PySem.W.keepIn K (.ref f4) = true)
    (a5 : PySem.W.nsIn K mainGlobals "check_letters" = some (some (.ref f5)))
    (l5 : K.lookup f5 = some ⟨oc5, od5, .func (PySem.W.fnOf "check_letters" "check_letters" (defArgs s_check_letters) (defBody s_check_letters) (defScope s_check_letters) .none kV5 dc5 pm5 an5 cd5 ct5), sl5⟩)
    (c5 : PySem.W.codeIn K cd5 "check_letters" = true)
    (k5 : PySem.W.keepIn K (.ref f5) = true)
    (a6 : PySem.W.nsIn K mainGlobals "spot_of" = some (some (.ref f6)))
    (l6 : K.lookup f6 = some ⟨oc6, od6, .func (PySem.W.fnOf "spot_of" "spot_of" (defArgs s_spot_of) (defBody s_spot_of) (defScope s_spot_of) .none kV6 dc6 pm6 an6 cd6 ct6), sl6⟩)
    (c6 : PySem.W.codeIn K cd6 "spot_of" = true)
    (k6 : PySem.W.keepIn K (.ref f6) = true)
    (a7 : PySem.W.nsIn K mainGlobals "letters_on" = some (some (.ref f7)))
    (l7 : K.lookup f7 = some ⟨oc7, od7, .func (PySem.W.fnOf "letters_on" "letters_on" (defArgs s_letters_on) (defBody s_letters_on) (defScope s_letters_on) .none kV7 dc7 pm7 an7 cd7 ct7), sl7⟩)
    (c7 : PySem.W.codeIn K cd7 "letters_on" = true)
    (k7 : PySem.W.keepIn K (.ref f7) = true)
    (a8 : PySem.W.nsIn K mainGlobals "strikes_on" = some (some (.ref f8)))
    (l8 : K.lookup f8 = some ⟨oc8, od8, .func (PySem.W.fnOf "strikes_on" "strikes_on" (defArgs s_strikes_on) (defBody s_strikes_on) (defScope s_strikes_on) .none kV8 dc8 pm8 an8 cd8 ct8), sl8⟩)
    (c8 : PySem.W.codeIn K cd8 "strikes_on" = true)
    (k8 : PySem.W.keepIn K (.ref f8) = true)
    (a9 : PySem.W.nsIn K mainGlobals "letters_for" = some (some (.ref f9)))
    (l9 : K.lookup f9 = some ⟨oc9, od9, .func (PySem.W.fnOf "letters_for" "letters_for" (defArgs s_letters_for) (defBody s_letters_for) (defScope s_letters_for) .none kV9 dc9 pm9 an9 cd9 ct9), sl9⟩)
    (c9 : PySem.W.codeIn K cd9 "letters_for" = true)
    (k9 : PySem.W.keepIn K (.ref f9) = true)
    (a10 : PySem.W.nsIn K mainGlobals "_law_word" = some (some (.ref f10)))
    (l10 : K.lookup f10 = some ⟨oc10, od10, .func (PySem.W.fnOf "_law_word" "_law_word" (defArgs s__law_word) (defBody s__law_word) (defScope s__law_word) .none kV10 dc10 pm10 an10 cd10 ct10), sl10⟩)
    (c10 : PySem.W.codeIn K cd10 "_law_word" = true)
    (k10 : PySem.W.keepIn K (.ref f10) = true)
    (a11 : PySem.W.nsIn K mainGlobals "_law_told" = some (some (.ref f11)))
    (l11 : K.lookup f11 = some ⟨oc11, od11, .func (PySem.W.fnOf "_law_told" "_law_told" (defArgs s__law_told) (defBody s__law_told) (defScope s__law_told) .none kV11 dc11 pm11 an11 cd11 ct11), sl11⟩)
    (c11 : PySem.W.codeIn K cd11 "_law_told" = true)
    (k11 : PySem.W.keepIn K (.ref f11) = true)
    (a12 : PySem.W.nsIn K mainGlobals "_law_take" = some (some (.ref f12)))
    (l12 : K.lookup f12 = some ⟨oc12, od12, .func (PySem.W.fnOf "_law_take" "_law_take" (defArgs s__law_take) (defBody s__law_take) (defScope s__law_take) .none kV12 dc12 pm12 an12 cd12 ct12), sl12⟩)
    (c12 : PySem.W.codeIn K cd12 "_law_take" = true)
    (k12 : PySem.W.keepIn K (.ref f12) = true)
    (a13 : PySem.W.nsIn K mainGlobals "_law_alike" = some (some (.ref f13)))
    (l13 : K.lookup f13 = some ⟨oc13, od13, .func (PySem.W.fnOf "_law_alike" "_law_alike" (defArgs s__law_alike) (defBody s__law_alike) (defScope s__law_alike) .none kV13 dc13 pm13 an13 cd13 ct13), sl13⟩)
    (c13 : PySem.W.codeIn K cd13 "_law_alike" = true)
    (k13 : PySem.W.keepIn K (.ref f13) = true)
    (a14 : PySem.W.nsIn K mainGlobals "law" = some (some (.ref f14)))
    (l14 : K.lookup f14 = some ⟨oc14, od14, .func (PySem.W.fnOf "law" "law" (defArgs s_law) (defBody s_law) (defScope s_law) .none kV14 dc14 pm14 an14 cd14 ct14), sl14⟩)
    (c14 : PySem.W.codeIn K cd14 "law" = true)
    (k14 : PySem.W.keepIn K (.ref f14) = true)
    (aCPrintError : PySem.W.nsIn K mainGlobals "PrintError" = some (some (.ref CPrintError)))
    (kCPrintError : PySem.W.keepIn K (.ref CPrintError) = true)
    (xCPrintError : PySem.W.excIn K CPrintError [.type "ValueError", .type "Exception", .type "BaseException", .type "object"] "ValueError.__new__" = true)
    (sCPrintError : PySem.W.subIn K (.ref CPrintError) (.type "BaseException") = some true)
    (tCPrintError : PySem.W.typeIn K (.ref CPrintError) = some (.type "type"))
    (hdPrintError : PySem.W.hasDictIn K CPrintError = true)
    (aCOutOfRange : PySem.W.nsIn K mainGlobals "OutOfRange" = some (some (.ref COutOfRange)))
    (kCOutOfRange : PySem.W.keepIn K (.ref COutOfRange) = true)
    (xCOutOfRange : PySem.W.excIn K COutOfRange [.type "ValueError", .type "Exception", .type "BaseException", .type "object"] "ValueError.__new__" = true)
    (sCOutOfRange : PySem.W.subIn K (.ref COutOfRange) (.type "BaseException") = some true)
    (tCOutOfRange : PySem.W.typeIn K (.ref COutOfRange) = some (.type "type"))
    (hdOutOfRange : PySem.W.hasDictIn K COutOfRange = true)
    (aCMalformed : PySem.W.nsIn K mainGlobals "Malformed" = some (some (.ref CMalformed)))
    (kCMalformed : PySem.W.keepIn K (.ref CMalformed) = true)
    (xCMalformed : PySem.W.excIn K CMalformed [.type "ValueError", .type "Exception", .type "BaseException", .type "object"] "ValueError.__new__" = true)
    (sCMalformed : PySem.W.subIn K (.ref CMalformed) (.type "BaseException") = some true)
    (tCMalformed : PySem.W.typeIn K (.ref CMalformed) = some (.type "type"))
    (hdMalformed : PySem.W.hasDictIn K CMalformed = true)
    (aCNotThere : PySem.W.nsIn K mainGlobals "NotThere" = some (some (.ref CNotThere)))
    (kCNotThere : PySem.W.keepIn K (.ref CNotThere) = true)
    (xCNotThere : PySem.W.excIn K CNotThere [.type "ValueError", .type "Exception", .type "BaseException", .type "object"] "ValueError.__new__" = true)
    (sCNotThere : PySem.W.subIn K (.ref CNotThere) (.type "BaseException") = some true)
    (tCNotThere : PySem.W.typeIn K (.ref CNotThere) = some (.type "type"))
    (hdNotThere : PySem.W.hasDictIn K CNotThere = true)
    (aCRefused : PySem.W.nsIn K mainGlobals "Refused" = some (some (.ref CRefused)))
    (kCRefused : PySem.W.keepIn K (.ref CRefused) = true)
    (xCRefused : PySem.W.excIn K CRefused [.type "ValueError", .type "Exception", .type "BaseException", .type "object"] "ValueError.__new__" = true)
    (sCRefused : PySem.W.subIn K (.ref CRefused) (.type "BaseException") = some true)
    (tCRefused : PySem.W.typeIn K (.ref CRefused) = some (.type "type"))
    (hdRefused : PySem.W.hasDictIn K CRefused = true)
    (aCTooMuch : PySem.W.nsIn K mainGlobals "TooMuch" = some (some (.ref CTooMuch)))
    (kCTooMuch : PySem.W.keepIn K (.ref CTooMuch) = true)
    (xCTooMuch : PySem.W.excIn K CTooMuch [.type "ValueError", .type "Exception", .type "BaseException", .type "object"] "ValueError.__new__" = true)
    (sCTooMuch : PySem.W.subIn K (.ref CTooMuch) (.type "BaseException") = some true)
    (tCTooMuch : PySem.W.typeIn K (.ref CTooMuch) = some (.type "type"))
    (hdTooMuch : PySem.W.hasDictIn K CTooMuch = true)
    (gaNotThere : PySem.W.findIn K (.ref CNotThere) "__getattribute__" = some (some (.builtin "BaseException.__getattribute__")))
    (ggNotThere : PySem.W.findIn K (.ref CNotThere) "__getattr__" = some none)
    (clNotThere : PySem.W.findIn K (.ref CNotThere) "__class__" = some (some (.builtin "object.__class__")))
    (mrNotThere : PySem.W.mroIn K CNotThere (.type "object") = some true)
    (suNotThere_Malformed : PySem.W.subIn K (.ref CNotThere) (.ref CMalformed) = some false)
    (suNotThere_NotThere : PySem.W.subIn K (.ref CNotThere) (.ref CNotThere) = some true)
    (suNotThere_OutOfRange : PySem.W.subIn K (.ref CNotThere) (.ref COutOfRange) = some false)
    (suNotThere_PrintError : PySem.W.subIn K (.ref CNotThere) (.ref CPrintError) = some true)
    (suNotThere_Refused : PySem.W.subIn K (.ref CNotThere) (.ref CRefused) = some false)
    (suNotThere_TooMuch : PySem.W.subIn K (.ref CNotThere) (.ref CTooMuch) = some false)
    (gaOutOfRange : PySem.W.findIn K (.ref COutOfRange) "__getattribute__" = some (some (.builtin "BaseException.__getattribute__")))
    (ggOutOfRange : PySem.W.findIn K (.ref COutOfRange) "__getattr__" = some none)
    (clOutOfRange : PySem.W.findIn K (.ref COutOfRange) "__class__" = some (some (.builtin "object.__class__")))
    (mrOutOfRange : PySem.W.mroIn K COutOfRange (.type "object") = some true)
    (suOutOfRange_Malformed : PySem.W.subIn K (.ref COutOfRange) (.ref CMalformed) = some false)
    (suOutOfRange_NotThere : PySem.W.subIn K (.ref COutOfRange) (.ref CNotThere) = some false)
    (suOutOfRange_OutOfRange : PySem.W.subIn K (.ref COutOfRange) (.ref COutOfRange) = some true)
    (suOutOfRange_PrintError : PySem.W.subIn K (.ref COutOfRange) (.ref CPrintError) = some true)
    (suOutOfRange_Refused : PySem.W.subIn K (.ref COutOfRange) (.ref CRefused) = some false)
    (suOutOfRange_TooMuch : PySem.W.subIn K (.ref COutOfRange) (.ref CTooMuch) = some false)
    (spG : PySem.W.specialIn K (.builtin "object.__class__") "__get__" = some (some (.builtin "getset_descriptor.__get__")))
    (tkG : PySem.W.takesIn K (.builtin "object.__class__") = some true)
    (z_abs : PySem.W.nsIn K mainGlobals "abs" = some none)
    (z_bool : PySem.W.nsIn K mainGlobals "bool" = some none)
    (z_int : PySem.W.nsIn K mainGlobals "int" = some none)
    (z_isinstance : PySem.W.nsIn K mainGlobals "isinstance" = some none)
    (z_len : PySem.W.nsIn K mainGlobals "len" = some none)
    (z_list : PySem.W.nsIn K mainGlobals "list" = some none)
    (z_max : PySem.W.nsIn K mainGlobals "max" = some none)
    (z_min : PySem.W.nsIn K mainGlobals "min" = some none)
    (z_range : PySem.W.nsIn K mainGlobals "range" = some none)
    (z_reversed : PySem.W.nsIn K mainGlobals "reversed" = some none)
    (z_str : PySem.W.nsIn K mainGlobals "str" = some none)
    (z_tuple : PySem.W.nsIn K mainGlobals "tuple" = some none)
    (v_FEWEST_SPOTS : PySem.W.nsIn K mainGlobals "FEWEST_SPOTS" = some (some (.int (2) tt_FEWEST_SPOTS)))
    (v_KINDS : PySem.W.nsIn K mainGlobals "KINDS" = some (some (.ref tp_KINDS)))
    (l_KINDS : K.lookup tp_KINDS = some ⟨.type "tuple", td_KINDS, .seq #[.str "once" tt_KINDS_0, .str "twice" tt_KINDS_1] tn_KINDS, ts_KINDS⟩)
    (v_MOST_SPOTS : PySem.W.nsIn K mainGlobals "MOST_SPOTS" = some (some (.int (1000000) tt_MOST_SPOTS)))
    : ∃ fd : FuncData, (∀ (s : Shared) (u : Value), BindsTo s fd ⟨[u], []⟩ [("script", u)]) ∧ ∀ base : Heap, K.In base → base.Ns mainGlobals mg → FnOk P w K mg base (L2N.CX P w) 10 fa fd ["script"] (spLaw K 63) := by
  have ez := hfa.symm.trans (PySem.W.mg_of X G a14)
  cases ez
  let ad : Nat → Addr := fun j => match j with
    | 0 => f0
    | 1 => f1
    | 2 => f2
    | 3 => f3
    | 4 => f4
    | 5 => f5
    | 6 => f6
    | 7 => f7
    | 8 => f8
    | 9 => f9
    | 10 => f10
    | 11 => f11
    | 12 => f12
    | 13 => f13
    | 14 => fa
    | _ => 0
  let fd : Nat → FuncData := fun j => match j with
    | 0 => PySem.W.fnOf "_law_draws" "_law_draws" (defArgs s__law_draws) (defBody s__law_draws) (defScope s__law_draws) .none kV0 dc0 pm0 an0 cd0 ct0
    | 1 => PySem.W.fnOf "_law_walk" "_law_walk" (defArgs s__law_walk) (defBody s__law_walk) (defScope s__law_walk) .none kV1 dc1 pm1 an1 cd1 ct1
    | 2 => PySem.W.fnOf "is_number" "is_number" (defArgs s_is_number) (defBody s_is_number) (defScope s_is_number) .none kV2 dc2 pm2 an2 cd2 ct2
    | 3 => PySem.W.fnOf "check_ribbon" "check_ribbon" (defArgs s_check_ribbon) (defBody s_check_ribbon) (defScope s_check_ribbon) .none kV3 dc3 pm3 an3 cd3 ct3
    | 4 => PySem.W.fnOf "round_of_ribbon" "round_of_ribbon" (defArgs s_round_of_ribbon) (defBody s_round_of_ribbon) (defScope s_round_of_ribbon) .none kV4 dc4 pm4 an4 cd4 ct4
    | 5 => PySem.W.fnOf "check_letters" "check_letters" (defArgs s_check_letters) (defBody s_check_letters) (defScope s_check_letters) .none kV5 dc5 pm5 an5 cd5 ct5
    | 6 => PySem.W.fnOf "spot_of" "spot_of" (defArgs s_spot_of) (defBody s_spot_of) (defScope s_spot_of) .none kV6 dc6 pm6 an6 cd6 ct6
    | 7 => PySem.W.fnOf "letters_on" "letters_on" (defArgs s_letters_on) (defBody s_letters_on) (defScope s_letters_on) .none kV7 dc7 pm7 an7 cd7 ct7
    | 8 => PySem.W.fnOf "strikes_on" "strikes_on" (defArgs s_strikes_on) (defBody s_strikes_on) (defScope s_strikes_on) .none kV8 dc8 pm8 an8 cd8 ct8
    | 9 => PySem.W.fnOf "letters_for" "letters_for" (defArgs s_letters_for) (defBody s_letters_for) (defScope s_letters_for) .none kV9 dc9 pm9 an9 cd9 ct9
    | 10 => PySem.W.fnOf "_law_word" "_law_word" (defArgs s__law_word) (defBody s__law_word) (defScope s__law_word) .none kV10 dc10 pm10 an10 cd10 ct10
    | 11 => PySem.W.fnOf "_law_told" "_law_told" (defArgs s__law_told) (defBody s__law_told) (defScope s__law_told) .none kV11 dc11 pm11 an11 cd11 ct11
    | 12 => PySem.W.fnOf "_law_take" "_law_take" (defArgs s__law_take) (defBody s__law_take) (defScope s__law_take) .none kV12 dc12 pm12 an12 cd12 ct12
    | 13 => PySem.W.fnOf "_law_alike" "_law_alike" (defArgs s__law_alike) (defBody s__law_alike) (defScope s__law_alike) .none kV13 dc13 pm13 an13 cd13 ct13
    | 14 => PySem.W.fnOf "law" "law" (defArgs s_law) (defBody s_law) (defScope s_law) .none kV14 dc14 pm14 an14 cd14 ct14
    | _ => PySem.W.fnOf "" "" (defArgs s_law) (defBody s_law) (defScope s_law) .none .none .none .none none .none .none
  have F0 : Fun K "_law_draws" "_law_draws" s__law_draws (ad 0) (fd 0) := fun_mk (st := s__law_draws) l0 c0 k0
  have B0 : Binds K (fd 0) ["script"] [] := F0.binds (ps := ["script"]) fun _ _ _ _ _ _ us hl => match us, hl with | [_], _ => rfl
  have F1 : Fun K "_law_walk" "_law_walk" s__law_walk (ad 1) (fd 1) := fun_mk (st := s__law_walk) l1 c1 k1
  have B1 : Binds K (fd 1) ["n", "kind", "letters"] [] := F1.binds (ps := ["n", "kind", "letters"]) fun _ _ _ _ _ _ us hl => match us, hl with | [_, _, _], _ => rfl
  have F2 : Fun K "is_number" "is_number" s_is_number (ad 2) (fd 2) := fun_mk (st := s_is_number) l2 c2 k2
  have B2 : Binds K (fd 2) ["value", "least", "most"] [] := F2.binds (ps := ["value", "least", "most"]) fun _ _ _ _ _ _ us hl => match us, hl with | [_, _, _], _ => rfl
  have F3 : Fun K "check_ribbon" "check_ribbon" s_check_ribbon (ad 3) (fd 3) := fun_mk (st := s_check_ribbon) l3 c3 k3
  have B3 : Binds K (fd 3) ["n", "kind"] [] := F3.binds (ps := ["n", "kind"]) fun _ _ _ _ _ _ us hl => match us, hl with | [_, _], _ => rfl
  have F4 : Fun K "round_of_ribbon" "round_of_ribbon" s_round_of_ribbon (ad 4) (fd 4) := fun_mk (st := s_round_of_ribbon) l4 c4 k4
  have B4 : Binds K (fd 4) ["n", "kind"] [] := F4.binds (ps := ["n", "kind"]) fun _ _ _ _ _ _ us hl => match us, hl with | [_, _], _ => rfl
  have F5 : Fun K "check_letters" "check_letters" s_check_letters (ad 5) (fd 5) := fun_mk (st := s_check_letters) l5 c5 k5
  have B5 : Binds K (fd 5) ["letters", "least"] [] := F5.binds (ps := ["letters", "least"]) fun _ _ _ _ _ _ us hl => match us, hl with | [_, _], _ => rfl
  have F6 : Fun K "spot_of" "spot_of" s_spot_of (ad 6) (fd 6) := fun_mk (st := s_spot_of) l6 c6 k6
  have B6 : Binds K (fd 6) ["n", "kind", "letter"] [] := F6.binds (ps := ["n", "kind", "letter"]) fun _ _ _ _ _ _ us hl => match us, hl with | [_, _, _], _ => rfl
  have F7 : Fun K "letters_on" "letters_on" s_letters_on (ad 7) (fd 7) := fun_mk (st := s_letters_on) l7 c7 k7
  have B7 : Binds K (fd 7) ["n", "kind", "spot"] [] := F7.binds (ps := ["n", "kind", "spot"]) fun _ _ _ _ _ _ us hl => match us, hl with | [_, _, _], _ => rfl
  have F8 : Fun K "strikes_on" "strikes_on" s_strikes_on (ad 8) (fd 8) := fun_mk (st := s_strikes_on) l8 c8 k8
  have B8 : Binds K (fd 8) ["n", "kind", "spot", "letters"] [] := F8.binds (ps := ["n", "kind", "spot", "letters"]) fun _ _ _ _ _ _ us hl => match us, hl with | [_, _, _, _], _ => rfl
  have F9 : Fun K "letters_for" "letters_for" s_letters_for (ad 9) (fd 9) := fun_mk (st := s_letters_for) l9 c9 k9
  have B9 : Binds K (fd 9) ["n", "kind", "strikes"] [] := F9.binds (ps := ["n", "kind", "strikes"]) fun _ _ _ _ _ _ us hl => match us, hl with | [_, _, _], _ => rfl
  have F10 : Fun K "_law_word" "_law_word" s__law_word (ad 10) (fd 10) := fun_mk (st := s__law_word) l10 c10 k10
  have B10 : Binds K (fd 10) ["e"] [] := F10.binds (ps := ["e"]) fun _ _ _ _ _ _ us hl => match us, hl with | [_], _ => rfl
  have F11 : Fun K "_law_told" "_law_told" s__law_told (ad 11) (fd 11) := fun_mk (st := s__law_told) l11 c11 k11
  have B11 : Binds K (fd 11) ["which", "n", "kind", "one", "two"] [] := F11.binds (ps := ["which", "n", "kind", "one", "two"]) fun _ _ _ _ _ _ us hl => match us, hl with | [_, _, _, _, _], _ => rfl
  have F12 : Fun K "_law_take" "_law_take" s__law_take (ad 12) (fd 12) := fun_mk (st := s__law_take) l12 c12 k12
  have B12 : Binds K (fd 12) ["draws", "bound"] [] := F12.binds (ps := ["draws", "bound"]) fun _ _ _ _ _ _ us hl => match us, hl with | [_, _], _ => rfl
  have F13 : Fun K "_law_alike" "_law_alike" s__law_alike (ad 13) (fd 13) := fun_mk (st := s__law_alike) l13 c13 k13
  have B13 : Binds K (fd 13) ["found", "due"] [] := F13.binds (ps := ["found", "due"]) fun _ _ _ _ _ _ us hl => match us, hl with | [_, _], _ => rfl
  have F14 : Fun K "law" "law" s_law (ad 14) (fd 14) := fun_mk (st := s_law) l14 c14 k14
  have B14 : Binds K (fd 14) ["script"] [] := F14.binds (ps := ["script"]) fun _ _ _ _ _ _ us hl => match us, hl with | [_], _ => rfl
  have ePrintError : (ecOf CPrintError COutOfRange CMalformed CNotThere CRefused CTooMuch) "PrintError" = CPrintError := by unfold ecOf; simp
  have eOutOfRange : (ecOf CPrintError COutOfRange CMalformed CNotThere CRefused CTooMuch) "OutOfRange" = COutOfRange := by unfold ecOf; simp
  have eMalformed : (ecOf CPrintError COutOfRange CMalformed CNotThere CRefused CTooMuch) "Malformed" = CMalformed := by unfold ecOf; simp
  have eNotThere : (ecOf CPrintError COutOfRange CMalformed CNotThere CRefused CTooMuch) "NotThere" = CNotThere := by unfold ecOf; simp
  have eRefused : (ecOf CPrintError COutOfRange CMalformed CNotThere CRefused CTooMuch) "Refused" = CRefused := by unfold ecOf; simp
  have eTooMuch : (ecOf CPrintError COutOfRange CMalformed CNotThere CRefused CTooMuch) "TooMuch" = CTooMuch := by unfold ecOf; simp
  have errs : Errs K (ecOf CPrintError COutOfRange CMalformed CNotThere CRefused CTooMuch) kn km isE := by
    refine ⟨fun n hn => ?_, fun n m hn hm => ?_, fun n m hn hm => ?_⟩
    · simp only [kn, Bool.or_eq_true, beq_iff_eq] at hn
      rcases hn with rfl | rfl
      · rw [eNotThere]; exact ⟨gaNotThere, ggNotThere, sCNotThere, hdNotThere, clNotThere, spG, tkG, mrNotThere⟩
      · rw [eOutOfRange]; exact ⟨gaOutOfRange, ggOutOfRange, sCOutOfRange, hdOutOfRange, clOutOfRange, spG, tkG, mrOutOfRange⟩
    · simp only [kn, Bool.or_eq_true, beq_iff_eq] at hn
      simp only [km, Bool.or_eq_true, beq_iff_eq] at hm
      rcases hn with rfl | rfl
      · rcases hm with ((((rfl | rfl) | rfl) | rfl) | rfl) | rfl
        · rw [eNotThere]; (try rw [eMalformed]); rw [show isE "NotThere" "Malformed" = false from by decide]; exact kit_sub suNotThere_NotThere suNotThere_Malformed hdMalformed tCMalformed
        · rw [eNotThere]; (try rw [eNotThere]); rw [show isE "NotThere" "NotThere" = true from by decide]; exact kit_sub suNotThere_NotThere suNotThere_NotThere hdNotThere tCNotThere
        · rw [eNotThere]; (try rw [eOutOfRange]); rw [show isE "NotThere" "OutOfRange" = false from by decide]; exact kit_sub suNotThere_NotThere suNotThere_OutOfRange hdOutOfRange tCOutOfRange
        · rw [eNotThere]; (try rw [ePrintError]); rw [show isE "NotThere" "PrintError" = true from by decide]; exact kit_sub suNotThere_NotThere suNotThere_PrintError hdPrintError tCPrintError
        · rw [eNotThere]; (try rw [eRefused]); rw [show isE "NotThere" "Refused" = false from by decide]; exact kit_sub suNotThere_NotThere suNotThere_Refused hdRefused tCRefused
        · rw [eNotThere]; (try rw [eTooMuch]); rw [show isE "NotThere" "TooMuch" = false from by decide]; exact kit_sub suNotThere_NotThere suNotThere_TooMuch hdTooMuch tCTooMuch
      · rcases hm with ((((rfl | rfl) | rfl) | rfl) | rfl) | rfl
        · rw [eOutOfRange]; (try rw [eMalformed]); rw [show isE "OutOfRange" "Malformed" = false from by decide]; exact kit_sub suOutOfRange_OutOfRange suOutOfRange_Malformed hdMalformed tCMalformed
        · rw [eOutOfRange]; (try rw [eNotThere]); rw [show isE "OutOfRange" "NotThere" = false from by decide]; exact kit_sub suOutOfRange_OutOfRange suOutOfRange_NotThere hdNotThere tCNotThere
        · rw [eOutOfRange]; (try rw [eOutOfRange]); rw [show isE "OutOfRange" "OutOfRange" = true from by decide]; exact kit_sub suOutOfRange_OutOfRange suOutOfRange_OutOfRange hdOutOfRange tCOutOfRange
        · rw [eOutOfRange]; (try rw [ePrintError]); rw [show isE "OutOfRange" "PrintError" = true from by decide]; exact kit_sub suOutOfRange_OutOfRange suOutOfRange_PrintError hdPrintError tCPrintError
        · rw [eOutOfRange]; (try rw [eRefused]); rw [show isE "OutOfRange" "Refused" = false from by decide]; exact kit_sub suOutOfRange_OutOfRange suOutOfRange_Refused hdRefused tCRefused
        · rw [eOutOfRange]; (try rw [eTooMuch]); rw [show isE "OutOfRange" "TooMuch" = false from by decide]; exact kit_sub suOutOfRange_OutOfRange suOutOfRange_TooMuch hdTooMuch tCTooMuch
    · simp only [kn, Bool.or_eq_true, beq_iff_eq] at hn
      simp only [km, Bool.or_eq_true, beq_iff_eq] at hm
      rcases hn with rfl | rfl
      · rcases hm with ((((rfl | rfl) | rfl) | rfl) | rfl) | rfl
        · rw [eNotThere]; (try rw [eMalformed]); rw [show isE "NotThere" "Malformed" = false from by decide]; exact PySem.W.exm_ref sCMalformed hdMalformed tCMalformed suNotThere_Malformed
        · rw [eNotThere]; (try rw [eNotThere]); rw [show isE "NotThere" "NotThere" = true from by decide]; exact PySem.W.exm_ref sCNotThere hdNotThere tCNotThere suNotThere_NotThere
        · rw [eNotThere]; (try rw [eOutOfRange]); rw [show isE "NotThere" "OutOfRange" = false from by decide]; exact PySem.W.exm_ref sCOutOfRange hdOutOfRange tCOutOfRange suNotThere_OutOfRange
        · rw [eNotThere]; (try rw [ePrintError]); rw [show isE "NotThere" "PrintError" = true from by decide]; exact PySem.W.exm_ref sCPrintError hdPrintError tCPrintError suNotThere_PrintError
        · rw [eNotThere]; (try rw [eRefused]); rw [show isE "NotThere" "Refused" = false from by decide]; exact PySem.W.exm_ref sCRefused hdRefused tCRefused suNotThere_Refused
        · rw [eNotThere]; (try rw [eTooMuch]); rw [show isE "NotThere" "TooMuch" = false from by decide]; exact PySem.W.exm_ref sCTooMuch hdTooMuch tCTooMuch suNotThere_TooMuch
      · rcases hm with ((((rfl | rfl) | rfl) | rfl) | rfl) | rfl
        · rw [eOutOfRange]; (try rw [eMalformed]); rw [show isE "OutOfRange" "Malformed" = false from by decide]; exact PySem.W.exm_ref sCMalformed hdMalformed tCMalformed suOutOfRange_Malformed
        · rw [eOutOfRange]; (try rw [eNotThere]); rw [show isE "OutOfRange" "NotThere" = false from by decide]; exact PySem.W.exm_ref sCNotThere hdNotThere tCNotThere suOutOfRange_NotThere
        · rw [eOutOfRange]; (try rw [eOutOfRange]); rw [show isE "OutOfRange" "OutOfRange" = true from by decide]; exact PySem.W.exm_ref sCOutOfRange hdOutOfRange tCOutOfRange suOutOfRange_OutOfRange
        · rw [eOutOfRange]; (try rw [ePrintError]); rw [show isE "OutOfRange" "PrintError" = true from by decide]; exact PySem.W.exm_ref sCPrintError hdPrintError tCPrintError suOutOfRange_PrintError
        · rw [eOutOfRange]; (try rw [eRefused]); rw [show isE "OutOfRange" "Refused" = false from by decide]; exact PySem.W.exm_ref sCRefused hdRefused tCRefused suOutOfRange_Refused
        · rw [eOutOfRange]; (try rw [eTooMuch]); rw [show isE "OutOfRange" "TooMuch" = false from by decide]; exact PySem.W.exm_ref sCTooMuch hdTooMuch tCTooMuch suOutOfRange_TooMuch
  have T : Txt K mg ad fd (ecOf CPrintError COutOfRange CMalformed CNotThere CRefused CTooMuch) := { F__law_draws := F0, g__law_draws := PySem.W.mg_of X G a0, b__law_draws := B0, F__law_walk := F1, g__law_walk := PySem.W.mg_of X G a1, b__law_walk := B1, F_is_number := F2, g_is_number := PySem.W.mg_of X G a2, b_is_number := B2, F_check_ribbon := F3, g_check_ribbon := PySem.W.mg_of X G a3, b_check_ribbon := B3, F_round_of_ribbon := F4, g_round_of_ribbon := PySem.W.mg_of X G a4, b_round_of_ribbon := B4, F_check_letters := F5, g_check_letters := PySem.W.mg_of X G a5, b_check_letters := B5, F_spot_of := F6, g_spot_of := PySem.W.mg_of X G a6, b_spot_of := B6, F_letters_on := F7, g_letters_on := PySem.W.mg_of X G a7, b_letters_on := B7, F_strikes_on := F8, g_strikes_on := PySem.W.mg_of X G a8, b_strikes_on := B8, F_letters_for := F9, g_letters_for := PySem.W.mg_of X G a9, b_letters_for := B9, F__law_word := F10, g__law_word := PySem.W.mg_of X G a10, b__law_word := B10, F__law_told := F11, g__law_told := PySem.W.mg_of X G a11, b__law_told := B11, F__law_take := F12, g__law_take := PySem.W.mg_of X G a12, b__law_take := B12, F__law_alike := F13, g__law_alike := PySem.W.mg_of X G a13, b__law_alike := B13, F_law := F14, g_law := PySem.W.mg_of X G a14, b_law := B14, n_abs := PySem.W.mg_none_of X G z_abs, n_bool := PySem.W.mg_none_of X G z_bool, n_int := PySem.W.mg_none_of X G z_int, n_isinstance := PySem.W.mg_none_of X G z_isinstance, n_len := PySem.W.mg_none_of X G z_len, n_list := PySem.W.mg_none_of X G z_list, n_max := PySem.W.mg_none_of X G z_max, n_min := PySem.W.mg_none_of X G z_min, n_range := PySem.W.mg_none_of X G z_range, n_reversed := PySem.W.mg_none_of X G z_reversed, n_str := PySem.W.mg_none_of X G z_str, n_tuple := PySem.W.mg_none_of X G z_tuple, c_FEWEST_SPOTS := ⟨_, PySem.W.mg_of X G v_FEWEST_SPOTS⟩, c_MOST_SPOTS := ⟨_, PySem.W.mg_of X G v_MOST_SPOTS⟩, c_KINDS := ⟨_, PySem.W.mg_of X G v_KINDS, fun F => .tup (.inr ⟨rfl, .inr ⟨_, _, _, l_KINDS, rfl, rfl, (show 2 ≤ sizeLine by rw [sizeLine_eq]; decide), show Vals [.str "once", .str "twice"] [.str "once" tt_KINDS_0, .str "twice" tt_KINDS_1] from .cons (⟨_, rfl⟩) (.cons (⟨_, rfl⟩) (.nil))⟩⟩) (.cons (.str _) (.cons (.str _) (.nil)))⟩, errs := errs, x_PrintError := by rw [ePrintError]; exact PySem.W.mg_of X G aCPrintError, xk_PrintError := by rw [ePrintError]; exact kCPrintError, xe_PrintError := by rw [ePrintError]; exact xCPrintError, xs_PrintError := by rw [ePrintError]; exact sCPrintError, xt_PrintError := by rw [ePrintError]; exact tCPrintError, x_OutOfRange := by rw [eOutOfRange]; exact PySem.W.mg_of X G aCOutOfRange, xk_OutOfRange := by rw [eOutOfRange]; exact kCOutOfRange, xe_OutOfRange := by rw [eOutOfRange]; exact xCOutOfRange, xs_OutOfRange := by rw [eOutOfRange]; exact sCOutOfRange, xt_OutOfRange := by rw [eOutOfRange]; exact tCOutOfRange, x_Malformed := by rw [eMalformed]; exact PySem.W.mg_of X G aCMalformed, xk_Malformed := by rw [eMalformed]; exact kCMalformed, xe_Malformed := by rw [eMalformed]; exact xCMalformed, xs_Malformed := by rw [eMalformed]; exact sCMalformed, xt_Malformed := by rw [eMalformed]; exact tCMalformed, x_NotThere := by rw [eNotThere]; exact PySem.W.mg_of X G aCNotThere, xk_NotThere := by rw [eNotThere]; exact kCNotThere, xe_NotThere := by rw [eNotThere]; exact xCNotThere, xs_NotThere := by rw [eNotThere]; exact sCNotThere, xt_NotThere := by rw [eNotThere]; exact tCNotThere, x_Refused := by rw [eRefused]; exact PySem.W.mg_of X G aCRefused, xk_Refused := by rw [eRefused]; exact kCRefused, xe_Refused := by rw [eRefused]; exact xCRefused, xs_Refused := by rw [eRefused]; exact sCRefused, xt_Refused := by rw [eRefused]; exact tCRefused, x_TooMuch := by rw [eTooMuch]; exact PySem.W.mg_of X G aCTooMuch, xk_TooMuch := by rw [eTooMuch]; exact kCTooMuch, xe_TooMuch := by rw [eTooMuch]; exact xCTooMuch, xs_TooMuch := by rw [eTooMuch]; exact sCTooMuch, xt_TooMuch := by rw [eTooMuch]; exact tCTooMuch }
  refine ⟨fd 14, fun s u => .of_eq rfl, fun base _ _ => ?_⟩
  have G__law_draws := ok__law_draws (P := P) (w := w) (base := base) T 
  have G__law_walk := ok__law_walk (P := P) (w := w) (base := base) T 
  have G_is_number := ok_is_number (P := P) (w := w) (base := base) T 
  have G_check_ribbon := ok_check_ribbon (P := P) (w := w) (base := base) T G_is_number
  have G_round_of_ribbon := ok_round_of_ribbon (P := P) (w := w) (base := base) T G_check_ribbon
  have G_check_letters := ok_check_letters (P := P) (w := w) (base := base) T G_is_number
  have G_spot_of := ok_spot_of (P := P) (w := w) (base := base) T G_round_of_ribbon G_check_letters
  have G_letters_on := ok_letters_on (P := P) (w := w) (base := base) T 
  have G_strikes_on := ok_strikes_on (P := P) (w := w) (base := base) T G_round_of_ribbon G_is_number G_check_letters G_letters_on
  have G_letters_for := ok_letters_for (P := P) (w := w) (base := base) T G_round_of_ribbon G_check_letters
  have G__law_word := ok__law_word (P := P) (w := w) (base := base) T 
  have G__law_told := ok__law_told (P := P) (w := w) (base := base) T G_round_of_ribbon G_spot_of G_strikes_on G_letters_for G__law_word
  have G__law_take := ok__law_take (P := P) (w := w) (base := base) T 
  have G__law_alike := ok__law_alike (P := P) (w := w) (base := base) T 
  have G_law := ok_law (P := P) (w := w) (base := base) T G__law_draws G__law_take G__law_walk G__law_told G__law_alike
  exact lawOk G_law plain
theorem plain : Plain := fun ns h _ => plain_ ns h
end K77
open PySem PySem.W PyProof.Rows
set_option maxHeartbeats 0 in
theorem PySem.Challenge.cw_printsheld_k77_whole_ribbons_to_and_fro_holds : PySem.Challenge.rw_printsheld_k77_whole_ribbons_to_and_fro.Holds := by
  w_on; o_law; k_head; (case hw => w_witness2)
  k_fill
  refine L2.walk_ofB (l := PySem.Challenge.rw_printsheld_k77_whole_ribbons_to_and_fro) (n := 63) (k := 10) (x := "script") (CX := fun w => L2N.CX PySem.Challenge.rw_printsheld_k77_whole_ribbons_to_and_fro.prog w) (sp := fun w => Pd.spLaw _ 63) rfl (by decide) rfl ⟨rfl, by decide, by decide⟩ (fun w h Y => PySem.W.kIn_of Y) ?F (fun _ _ a ns hl hb _ hS => ⟨a, ns, rfl, hS, hl, hb, fun _ => rfl⟩) (fun _ _ _ _ _ ⟨_, _, _, _, _, _, _, _, _, _, _, _, z⟩ => z)
  case F =>
    intro w mg fa h KX G hmg
    refine' K77.all_mk K77.plain KX G hmg ?a0 ?l0 ?c0 ?k0 ?a1 ?l1 ?c1 ?k1 ?a2 ?l2 ?c2 ?k2 ?a3 ?l3 ?c3 ?k3 ?a4 ?l4 ?c4 ?k4 ?a5 ?l5 ?c5 ?k5 ?a6 ?l6 ?c6 ?k6 ?a7 ?l7 ?c7 ?k7 ?a8 ?l8 ?c8 ?k8 ?a9 ?l9 ?c9 ?k9 ?a10 ?l10 ?c10 ?k10 ?a11 ?l11 ?c11 ?k11 ?a12 ?l12 ?c12 ?k12 ?a13 ?l13 ?c13 ?k13 ?a14 ?l14 ?c14 ?k14 ?aCPrintError ?kCPrintError ?xCPrintError ?sCPrintError ?tCPrintError ?hdPrintError ?aCOutOfRange ?kCOutOfRange ?xCOutOfRange ?sCOutOfRange ?tCOutOfRange ?hdOutOfRange ?aCMalformed ?kCMalformed ?xCMalformed ?sCMalformed ?tCMalformed ?hdMalformed ?aCNotThere ?kCNotThere ?xCNotThere ?sCNotThere ?tCNotThere ?hdNotThere ?aCRefused ?kCRefused ?xCRefused ?sCRefused ?tCRefused ?hdRefused ?aCTooMuch ?kCTooMuch ?xCTooMuch ?sCTooMuch ?tCTooMuch ?hdTooMuch ?gaNotThere ?ggNotThere ?clNotThere ?mrNotThere ?suNotThere_Malformed ?suNotThere_NotThere ?suNotThere_OutOfRange ?suNotThere_PrintError ?suNotThere_Refused ?suNotThere_TooMuch ?gaOutOfRange ?ggOutOfRange ?clOutOfRange ?mrOutOfRange ?suOutOfRange_Malformed ?suOutOfRange_NotThere ?suOutOfRange_OutOfRange ?suOutOfRange_PrintError ?suOutOfRange_Refused ?suOutOfRange_TooMuch ?spG ?tkG ?z_abs ?z_bool ?z_int ?z_isinstance ?z_len ?z_list ?z_max ?z_min ?z_range ?z_reversed ?z_str ?z_tuple ?v_FEWEST_SPOTS ?v_KINDS ?l_KINDS ?v_MOST_SPOTS
    (case a0 => k_is); (case l0 => k_is); (case c0 => k_is); (case k0 => k_is); (case a1 => k_is); (case l1 => k_is); (case c1 => k_is); (case k1 => k_is); (case a2 => k_is); (case l2 => k_is); (case c2 => k_is); (case k2 => k_is); (case a3 => k_is); (case l3 => k_is); (case c3 => k_is); (case k3 => k_is); (case a4 => k_is); (case l4 => k_is); (case c4 => k_is); (case k4 => k_is); (case a5 => k_is); (case l5 => k_is); (case c5 => k_is); (case k5 => k_is); (case a6 => k_is); (case l6 => k_is); (case c6 => k_is); (case k6 => k_is); (case a7 => k_is); (case l7 => k_is); (case c7 => k_is); (case k7 => k_is); (case a8 => k_is); (case l8 => k_is); (case c8 => k_is); (case k8 => k_is); (case a9 => k_is); (case l9 => k_is); (case c9 => k_is); (case k9 => k_is); (case a10 => k_is); (case l10 => k_is); (case c10 => k_is); (case k10 => k_is); (case a11 => k_is); (case l11 => k_is); (case c11 => k_is); (case k11 => k_is); (case a12 => k_is); (case l12 => k_is); (case c12 => k_is); (case k12 => k_is); (case a13 => k_is); (case l13 => k_is); (case c13 => k_is); (case k13 => k_is); (case a14 => k_is); (case l14 => k_is); (case c14 => k_is); (case k14 => k_is); (case aCPrintError => k_is); (case kCPrintError => k_is); (case xCPrintError => k_exc); (case sCPrintError => k_is); (case tCPrintError => k_is); (case hdPrintError => k_is); (case aCOutOfRange => k_is); (case kCOutOfRange => k_is); (case xCOutOfRange => k_exc); (case sCOutOfRange => k_is); (case tCOutOfRange => k_is); (case hdOutOfRange => k_is); (case aCMalformed => k_is); (case kCMalformed => k_is); (case xCMalformed => k_exc); (case sCMalformed => k_is); (case tCMalformed => k_is); (case hdMalformed => k_is); (case aCNotThere => k_is); (case kCNotThere => k_is); (case xCNotThere => k_exc); (case sCNotThere => k_is); (case tCNotThere => k_is); (case hdNotThere => k_is); (case aCRefused => k_is); (case kCRefused => k_is); (case xCRefused => k_exc); (case sCRefused => k_is); (case tCRefused => k_is); (case hdRefused => k_is); (case aCTooMuch => k_is); (case kCTooMuch => k_is); (case xCTooMuch => k_exc); (case sCTooMuch => k_is); (case tCTooMuch => k_is); (case hdTooMuch => k_is); (case gaNotThere => k_is); (case ggNotThere => k_is); (case clNotThere => k_is); (case mrNotThere => k_is); (case suNotThere_Malformed => first | rfl | k_is); (case suNotThere_NotThere => first | rfl | k_is); (case suNotThere_OutOfRange => first | rfl | k_is); (case suNotThere_PrintError => first | rfl | k_is); (case suNotThere_Refused => first | rfl | k_is); (case suNotThere_TooMuch => first | rfl | k_is); (case gaOutOfRange => k_is); (case ggOutOfRange => k_is); (case clOutOfRange => k_is); (case mrOutOfRange => k_is); (case suOutOfRange_Malformed => first | rfl | k_is); (case suOutOfRange_NotThere => first | rfl | k_is); (case suOutOfRange_OutOfRange => first | rfl | k_is); (case suOutOfRange_PrintError => first | rfl | k_is); (case suOutOfRange_Refused => first | rfl | k_is); (case suOutOfRange_TooMuch => first | rfl | k_is); (case spG => k_is); (case tkG => k_is); (case z_abs => k_is); (case z_bool => k_is); (case z_int => k_is); (case z_isinstance => k_is); (case z_len => k_is); (case z_list => k_is); (case z_max => k_is); (case z_min => k_is); (case z_range => k_is); (case z_reversed => k_is); (case z_str => k_is); (case z_tuple => k_is); (case v_FEWEST_SPOTS => k_is); (case v_KINDS => k_is); (case l_KINDS => k_is); (case v_MOST_SPOTS => k_is)
end
