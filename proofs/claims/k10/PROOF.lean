import PyProof.Rows.All
import Wide.All
import OpenK.AllK
import Wide.FinOn
import HandS.ForMost
import HandS.ForExc
import HandS.ExcCtx
import HandS.CallSlots
import HandS.IsInst
import HandS.Style
import HandS.Flow
import HandS.Conv
import HandS.Deep
import HandS.Wide
import HandS.AnyAll
import KE.DataEq
import HandS.TupAny
import KE.KStateDown
import HandS.Zip
import KE.GoesMore
import HandS.TupMul
import KE.KTupSum
import HandS.TupLe
import HandS.TupLen
import HandS.RevTup
import KE.DataMinMax
import KE.SortData
import HandS.SortInts
import HandS.Gcd
import HandS.More
import HandS.Small
import HandS.HotCalls
import HandS.ExcIs
import HandS.EndBits
import HandS.GenOver
import HandS.EndTab
import HandS.Star
import KE.GoesZip
import PySem.Challenge.RW_printsheld_k10_whole_plates_for_labels
section
set_option Elab.async false
set_option linter.all false
set_option maxRecDepth 100000
set_option maxHeartbeats 4000000
/-! Pd: values as pure data over the hand layer; a shallow evaluator and what it is worth. -/
namespace Pd
open PySem L2

abbrev D := PyData
abbrev Frag := PySem.W.Frag

/-- a tuple, a list: never locked -/
def Still : HO → Prop
  | .tup _ => True
  | .lst _ => True
  | _ => False
/-- all that F lets read, H lets read; a tuple stays a tuple, a list a list -/
structure Ex (F H : Hp) : Prop where
  rd : ∀ a u, Rd F a u → Rd H a u
  tp : ∀ a u, Still u → F a = some u → H a = some u
theorem Ex.refl (F : Hp) : Ex F F := ⟨fun _ _ h => h, fun _ _ _ h => h⟩
theorem Ex.trans {F G H : Hp} (a : Ex F G) (b : Ex G H) : Ex F H := ⟨fun p u h => b.rd p u (a.rd p u h), fun p u k h => b.tp p u k (a.tp p u k h)⟩
theorem Rd.someOf {F : Hp} {a : Addr} {u : HO} (h : Rd F a u) : F a ≠ none := by
  rcases h with h | ⟨o, h⟩ <;> rw [h] <;> exact Option.some_ne_none _
theorem Ex.free {F H : Hp} (e : Ex F H) {p : Addr} (h : H p = none) : F p = none := by
  cases q : F p with
  | none => rfl
  | some o => exact absurd h (Rd.someOf (e.rd p o (.inl q)))
theorem Rd.upd {F : Hp} {a p : Addr} {o u : HO} (hne : a ≠ p) : Rd (upd F p o) a u ↔ Rd F a u := by
  unfold Rd
  rw [upd_ne hne]
theorem Ex.new {F : Hp} {p : Addr} {o : HO} (h : F p = none) : Ex F (upd F p o) := by
  refine ⟨fun a u r => ?_, fun a u k r => ?_⟩
  · exact (Rd.upd fun z => by rw [z] at r; exact absurd h (Rd.someOf r)).mpr r
  · rw [upd_ne fun z => by rw [z, h] at r; cases r]; exact r
theorem Ex.put {F H : Hp} {p : Addr} {o : HO} (e : Ex F H) (h : F p = none) : Ex F (upd H p o) := by
  refine ⟨fun a u r => ?_, fun a u k r => ?_⟩
  · exact (Rd.upd fun z => by rw [z] at r; exact absurd h (Rd.someOf r)).mpr (e.rd a u r)
  · rw [upd_ne fun z => by rw [z, h] at r; cases r]; exact e.tp a u k r
theorem Ex.both {F H : Hp} {p : Addr} {o : HO} (e : Ex F H) : Ex (upd F p o) (upd H p o) := by
  refine ⟨fun a u r => ?_, fun a u k r => ?_⟩
  · by_cases hne : a = p
    · subst hne
      unfold Rd at r ⊢
      rw [upd_same] at r ⊢
      exact r
    · exact (Rd.upd hne).mpr (e.rd a u ((Rd.upd hne).mp r))
  · by_cases hne : a = p
    · subst hne
      rw [upd_same] at r ⊢
      exact r
    · rw [upd_ne hne] at r ⊢
      exact e.tp a u k r
/-- freeze what stands at p -/
theorem Ex.take {F H : Hp} {p : Addr} {o : HO} (e : Ex F H) (h : H p = some o) : Ex (upd F p o) H := by
  refine ⟨fun a u r => ?_, fun a u k r => ?_⟩
  · by_cases hne : a = p
    · subst hne
      unfold Rd at r ⊢
      rw [upd_same] at r
      rw [h]
      exact r
    · exact e.rd a u ((Rd.upd hne).mp r)
  · by_cases hne : a = p
    · subst hne
      rw [upd_same] at r
      rw [h]
      exact r
    · rw [upd_ne hne] at r
      exact e.tp a u k r

/-- what a law's text fixes: the written part; may a written tuple be a value; the tables of code objects -/
structure Ct where
  K : Frag
  kt : Bool
  tb : Addr → Prop
/-- the tables stand -/
def TabOk (c : Ct) (H : Hp) : Prop := ∀ q, c.tb q → GxR.TabG H q
/-- no table is a value -/
def TfOk (c : Ct) (F : Hp) : Prop := ∀ q, c.tb q → F q = none
theorem TabOk.ne {c : Ct} {H : Hp} (h : TabOk c H) {q : Addr} {o : HO} (e : H q = some o) (n : ∀ ps, o ≠ .tbl ps) : ¬ c.tb q := fun z => by
  obtain ⟨ps, e', _⟩ := h q z
  rw [e] at e'
  exact n ps (Option.some.inj e')
theorem TabOk.dom {c : Ct} {H : Hp} (h : TabOk c H) {q : Addr} (z : c.tb q) : H q ≠ none := by
  obtain ⟨ps, e', _⟩ := h q z
  rw [e']
  exact Option.some_ne_none _
theorem TabOk.keep {c : Ct} {H H' : Hp} (h : TabOk c H) (k : ∀ q o, c.tb q → H q = some o → H' q = some o) : TabOk c H' := fun q z => by
  obtain ⟨ps, e', t⟩ := h q z
  exact ⟨ps, k q _ z e', t⟩
def TupAt (c : Ct) (F : Hp) (a : Addr) (xs : List V) : Prop := F a = some (.tup xs) ∨ (c.kt = true ∧ SqT c.K F a xs)
def LstAt (_ : Ct) (F : Hp) (a : Addr) (xs : List V) : Prop := F a = some (.lst xs)
theorem TupAt.sq {c : Ct} {F : Hp} {a : Addr} {xs : List V} (h : TupAt c F a xs) : SqT c.K F a xs := by
  rcases h with h | h
  · exact .inl (.inl h)
  · exact h.2
theorem LstAt.sq {c : Ct} {F : Hp} {a : Addr} {xs : List V} (h : LstAt c F a xs) : SqL c.K F a xs := .inl (.inl h)
theorem exT {K : Frag} {F H : Hp} {a : Addr} {xs : List V} (e : Ex F H) (h : SqT K F a xs) : SqT K H a xs := by
  rcases h with h | h
  · exact .inl (e.rd _ _ h)
  · exact .inr h
theorem exL {K : Frag} {F H : Hp} {a : Addr} {xs : List V} (e : Ex F H) (h : SqL K F a xs) : SqL K H a xs := by
  rcases h with h | h
  · exact .inl (e.rd _ _ h)
  · exact .inr h
theorem TupAt.ex {c : Ct} {F H : Hp} {a : Addr} {xs : List V} (e : Ex F H) (h : TupAt c F a xs) : TupAt c H a xs := by
  rcases h with h | h
  · exact .inl (e.tp _ _ trivial h)
  · exact .inr ⟨h.1, exT e h.2⟩
theorem LstAt.ex {c : Ct} {F H : Hp} {a : Addr} {xs : List V} (e : Ex F H) (h : LstAt c F a xs) : LstAt c H a xs := e.tp _ _ trivial h

/-- a key as data -/
def kD : Key → D
  | .inl i => .int i
  | .inr s => .str s
def tkD (ks : List Key) : D := .tuple (ks.map kD)

/-- a list that is only read (the script, a list that the top wrote), as data -/
abbrev scrD (ds : List D) : D := .dict [(.bool false, .list ds)]
/-- a dict as data: its kind (are its keys tuples), its pairs -/
abbrev dct (t : Bool) (kvs : List (D × D)) : D := .dict ((.none, .bool t) :: kvs)
mutual
/-- in the heap F the value is the data -/
inductive Rep (c : Ct) (F : Hp) : D → V → Prop
  | non : Rep c F .none .non
  | bl (b : Bool) : Rep c F (.bool b) (.bl b)
  | int (i : Int) : Rep c F (.int i) (.int i)
  | str (s : Str) : Rep c F (.str s) (.str s)
  | lst {a : Addr} {xs : List V} {ds : List D} : LstAt c F a xs → Reps c F ds xs → Rep c F (.list ds) (.ref a)
  | tup {a : Addr} {xs : List V} {ds : List D} : TupAt c F a xs → Reps c F ds xs → Rep c F (.tuple ds) (.ref a)
  | dK {a : Addr} {ws : List (Key × V)} {kvs : List (D × D)} : Rd F a (.dK ws) → RepK c F kvs ws → Rep c F (.dict ((.none, .bool false) :: kvs)) (.ref a)
  | dT {a : Addr} {ws : List (List Key × V)} {kvs : List (D × D)} : Rd F a (.dT ws) → RepT c F kvs ws → Rep c F (.dict ((.none, .bool true) :: kvs)) (.ref a)
  | scr {a : Addr} {xs : List V} {ds : List D} : SqL c.K F a xs → Reps c F ds xs → Rep c F (.dict [(.bool false, .list ds)]) (.ref a)
inductive Reps (c : Ct) (F : Hp) : List D → List V → Prop
  | nil : Reps c F [] []
  | cons {d : D} {v : V} {ds : List D} {vs : List V} : Rep c F d v → Reps c F ds vs → Reps c F (d :: ds) (v :: vs)
inductive RepK (c : Ct) (F : Hp) : List (D × D) → List (Key × V) → Prop
  | nil : RepK c F [] []
  | cons {k : Key} {d : D} {v : V} {kvs : List (D × D)} {ws : List (Key × V)} : Rep c F d v → RepK c F kvs ws → RepK c F ((kD k, d) :: kvs) ((k, v) :: ws)
inductive RepT (c : Ct) (F : Hp) : List (D × D) → List (List Key × V) → Prop
  | nil : RepT c F [] []
  | cons {k : List Key} {d : D} {v : V} {kvs : List (D × D)} {ws : List (List Key × V)} : Rep c F d v → RepT c F kvs ws → RepT c F ((tkD k, d) :: kvs) ((k, v) :: ws)
end
section
variable {c : Ct} {F H : Hp} {d : D} {v : V} {ds : List D} {vs : List V}
mutual
theorem Rep.ex (e : Ex F H) : ∀ {d : D} {v : V}, Rep c F d v → Rep c H d v
  | _, _, .non => .non
  | _, _, .bl b => .bl b
  | _, _, .int i => .int i
  | _, _, .str s => .str s
  | _, _, .lst h r => .lst (h.ex e) (Reps.ex e r)
  | _, _, .tup h r => .tup (h.ex e) (Reps.ex e r)
  | _, _, .dK h r => .dK (e.rd _ _ h) (RepK.ex e r)
  | _, _, .dT h r => .dT (e.rd _ _ h) (RepT.ex e r)
  | _, _, .scr h r => .scr (exL e h) (Reps.ex e r)
theorem Reps.ex (e : Ex F H) : ∀ {ds : List D} {vs : List V}, Reps c F ds vs → Reps c H ds vs
  | _, _, .nil => .nil
  | _, _, .cons h r => .cons (Rep.ex e h) (Reps.ex e r)
theorem RepK.ex (e : Ex F H) : ∀ {ds : List (D × D)} {vs : List (Key × V)}, RepK c F ds vs → RepK c H ds vs
  | _, _, .nil => .nil
  | _, _, .cons h r => .cons (Rep.ex e h) (RepK.ex e r)
theorem RepT.ex (e : Ex F H) : ∀ {ds : List (D × D)} {vs : List (List Key × V)}, RepT c F ds vs → RepT c H ds vs
  | _, _, .nil => .nil
  | _, _, .cons h r => .cons (Rep.ex e h) (RepT.ex e r)
end
theorem Reps.length : ∀ {ds : List D} {vs : List V}, Reps c F ds vs → vs.length = ds.length
  | _, _, .nil => rfl
  | _, _, .cons _ r => by rw [List.length_cons, List.length_cons, Reps.length r]
theorem Reps.get : ∀ {ds : List D} {vs : List V} {i : Nat} {v : V}, Reps c F ds vs → vs[i]? = some v → ∃ d, ds[i]? = some d ∧ Rep c F d v
  | _, _, _, _, .nil, h => by simp at h
  | _, _, 0, _, .cons h _, e => by simp at e; subst e; exact ⟨_, rfl, h⟩
  | _, _, i + 1, _, .cons _ r, e => by
    obtain ⟨d, h1, h2⟩ := Reps.get (i := i) r (by simpa using e)
    exact ⟨d, by simpa using h1, h2⟩
theorem Reps.getD : ∀ {ds : List D} {vs : List V} {i : Nat} {d : D}, Reps c F ds vs → ds[i]? = some d → ∃ v, vs[i]? = some v ∧ Rep c F d v
  | _, _, _, _, .nil, h => by simp at h
  | _, _, 0, _, .cons h _, e => by simp at e; subst e; exact ⟨_, rfl, h⟩
  | _, _, i + 1, _, .cons _ r, e => by
    obtain ⟨d, h1, h2⟩ := Reps.getD (i := i) r (by simpa using e)
    exact ⟨d, by simpa using h1, h2⟩
theorem Reps.append : ∀ {ds es : List D} {vs ws : List V}, Reps c F ds vs → Reps c F es ws → Reps c F (ds ++ es) (vs ++ ws)
  | _, _, _, _, .nil, s => s
  | _, _, _, _, .cons h r, s => .cons h (Reps.append r s)
theorem Reps.take : ∀ {ds : List D} {vs : List V} (n : Nat), Reps c F ds vs → Reps c F (ds.take n) (vs.take n)
  | _, _, 0, _ => .nil
  | _, _, _ + 1, .nil => .nil
  | _, _, n + 1, .cons h r => .cons h (Reps.take n r)
theorem Reps.drop : ∀ {ds : List D} {vs : List V} (n : Nat), Reps c F ds vs → Reps c F (ds.drop n) (vs.drop n)
  | _, _, 0, r => r
  | _, _, _ + 1, .nil => .nil
  | _, _, n + 1, .cons _ r => Reps.drop n r
theorem Reps.set {d : D} {v : V} (h : Rep c F d v) : ∀ {ds : List D} {vs : List V} (i : Nat), Reps c F ds vs → Reps c F (ds.set i d) (vs.set i v)
  | _, _, _, .nil => .nil
  | _, _, 0, .cons _ t => .cons h t
  | _, _, i + 1, .cons q t => .cons q (Reps.set h i t)
theorem Reps.rev : ∀ {ds : List D} {vs : List V}, Reps c F ds vs → Reps c F ds.reverse vs.reverse
  | _, _, .nil => .nil
  | _, _, .cons h r => by
    rw [List.reverse_cons, List.reverse_cons]
    exact (Reps.rev r).append (.cons h .nil)
theorem Reps.ints : ∀ (ns : List Int), Reps c F (ns.map PyData.int) (ns.map V.int)
  | [] => .nil
  | n :: r => .cons (.int n) (Reps.ints r)
theorem Reps.ofInts : ∀ {ns : List Int} {vs : List V}, Reps c F (ns.map PyData.int) vs → vs = ns.map V.int
  | [], _, h => by cases h; rfl
  | n :: r, _, h => by
    cases h with
    | cons h1 h2 =>
      cases h1
      rw [Reps.ofInts h2]; rfl
mutual
/-- read by the library's relation -/
theorem Rep.dp : ∀ {d : D} {v : V}, Rep c F d v → PyData.plain d = true → Dp c.K F v d
  | _, _, .non, _ => .non
  | _, _, .bl b, _ => .bl b
  | _, _, .int i, _ => .int i
  | _, _, .str s, _ => .str s
  | _, _, .lst h r, p => .lst h.sq (Reps.dp r (by simpa [PyData.plain] using p))
  | _, _, .tup h r, p => .tup h.sq (Reps.dp r (by simpa [PyData.plain] using p))
  | _, _, .dK _ _, p => by simp [PyData.plain] at p
  | _, _, .dT _ _, p => by simp [PyData.plain] at p
  | _, _, .scr _ _, p => by simp [PyData.plain] at p
theorem Reps.dp : ∀ {ds : List D} {vs : List V}, Reps c F ds vs → PyData.plainAll ds = true → DpAll c.K F vs ds
  | _, _, .nil, _ => .nil
  | _, _, .cons h r, p => by
    simp only [PyData.plainAll, Bool.and_eq_true] at p
    exact .cons (Rep.dp h p.1) (Reps.dp r p.2)
end
end
end Pd
end
section
set_option Elab.async false
set_option linter.all false
set_option maxRecDepth 100000
set_option maxHeartbeats 4000000
/-! at the library's level: min, max of a tuple of ints; t[::-1]; range with a step above 0 -/
namespace HT
open PySem PyProof.Rows
open PySem.SeqAt
section
variable {prog : Program} {w : World} {A : Around} {E : Value → Shared → Prop} {s : Shared} {l : Addr} {xs : Array (Int × Tok)}
theorem iter_intTup {Q : Value → Shared → Prop} (hl : s.heap.IsTuple l (intItems xs))
    (h : ∀ s₂ : Shared, s₂ = { s with heap := s.heap.push { cls := .type "tuple_iterator", data := .fields #[.ref l, .int 0 0] } } →
      (s₂.heap.IsTupleIter s.heap.objs.size l 0 ∧ s₂.heap.IsTuple l (intItems xs)) → (∀ b ∈ [s.heap.objs.size, l], b < s₂.heap.objs.size) → l ≠ s.heap.objs.size → Q (.ref s.heap.objs.size) s₂) :
    wpAny (model prog w) A (pyIter (.ref l)) Q E s := by
  have hlt : l < s.heap.objs.size := by obtain ⟨_, e, _⟩ := hl; exact Heap.lt_size e
  refine wpAny_pyIter_tuple hl (h _ rfl ⟨⟨_, Heap.get?_push_size _ rfl, rfl, rfl⟩, hl.push _⟩ (fun b hb => ?_) (Nat.ne_of_lt hlt))
  show b < (s.heap.push _).objs.size
  rw [Heap.size_push]
  rcases List.mem_cons.mp hb with rfl | hb
  · exact Nat.lt_succ_self _
  · rcases List.mem_cons.mp hb with rfl | hb
    · exact Nat.lt_succ_of_lt hlt
    · cases hb
theorem old_keptT {h' : Heap} (hk : ∀ b o, b ∉ [s.heap.objs.size] → (s.heap.push { cls := .type "tuple_iterator", data := .fields #[.ref l, .int 0 0] }).get? b = some o → h'.get? b = some o) :
    ∀ b o, s.heap.get? b = some o → h'.get? b = some o := fun b o e => by
  refine hk b o (fun hm => ?_) (Heap.get?_push_of_some _ e)
  rcases List.mem_cons.mp hm with e1 | hm
  · exact absurd (e1 ▸ Heap.lt_size e) (Nat.lt_irrefl _)
  · cases hm
theorem max_intTup {Q : Value → Shared → Prop} (hh : A.handled = none) (hl : s.heap.IsTuple l (intItems xs)) (hne : 0 < xs.size)
    (h : ∀ v h' tk, (intItems xs)[argBest (fun i j => decide (numAt xs i > numAt xs j)) (xs.size - 1)]? = some v → (∀ b o, s.heap.get? b = some o → h'.get? b = some o) → Q v { s with heap := h', toks := tk }) :
    wpAny (model prog w) A (call (.builtin "max") [.ref l]) Q E s := by
  refine call_max_walk (iter_intTup hl fun s₂ e st hfp hlI => ?_)
  subst e
  refine ⟨_, _, _, _, _, _, _, rfl, Walks.tuple (A := A.in1) hh _ l hlI (intItems xs), st, hfp, by simpa [intItems] using hne, CmpOf.ints_gt (numAt xs) (fun _ _ => intItems_at), fun v h' tk hP hk => ?_⟩
  exact h v h' tk (by simpa [intItems] using hP) (old_keptT hk)
theorem min_intTup {Q : Value → Shared → Prop} (hh : A.handled = none) (hl : s.heap.IsTuple l (intItems xs)) (hne : 0 < xs.size)
    (h : ∀ v h' tk, (intItems xs)[argBest (fun i j => decide (numAt xs i < numAt xs j)) (xs.size - 1)]? = some v → (∀ b o, s.heap.get? b = some o → h'.get? b = some o) → Q v { s with heap := h', toks := tk }) :
    wpAny (model prog w) A (call (.builtin "min") [.ref l]) Q E s := by
  refine call_min_walk (iter_intTup hl fun s₂ e st hfp hlI => ?_)
  subst e
  refine ⟨_, _, _, _, _, _, _, rfl, Walks.tuple (A := A.in1) hh _ l hlI (intItems xs), st, hfp, by simpa [intItems] using hne, CmpOf.ints_lt (numAt xs) (fun _ _ => intItems_at), fun v h' tk hP hk => ?_⟩
  exact h v h' tk (by simpa [intItems] using hP) (old_keptT hk)
variable {Q : Value → Shared → Prop} {its : List Value} {ns : List Int}
theorem max_rawT (hh : A.handled = none) (hl : s.heap.IsTuple l its.toArray) (hi : IntsAre its ns) (hne : 0 < ns.length)
    (h : ∀ h' tk M t', (∀ b o, s.heap.get? b = some o → h'.get? b = some o) → M ∈ ns → (∀ a, a ∈ ns → a ≤ M) → Q (.int M t') { s with heap := h', toks := tk }) : wpAny (model prog w) A (call (.builtin "max") [.ref l]) Q E s := by
  obtain ⟨xs, e⟩ := hi.allInts.items
  have hn : numsOf (intItems xs).toList = ns := by rw [← e]; exact hi.numsOf
  rw [nums_intItems] at hn
  subst hn
  rw [e] at hl
  have hsz : 0 < xs.size := by simpa using hne
  refine max_intTup hh hl hsz fun v h' tk hv hk => ?_
  obtain ⟨t, rfl⟩ := intItems_at hv
  obtain ⟨h1, h2⟩ := argBest_gt (numAt xs) (xs.size - 1)
  refine h h' tk _ t hk ?_ fun a ha => ?_
  · rw [numAt_eq]; exact PySem.getD_mem (by rw [List.length_map, Array.length_toList]; omega)
  · obtain ⟨j, hj, rfl⟩ := mem_getD ha
    rw [List.length_map, Array.length_toList] at hj
    rw [← numAt_eq]; exact h2 j (by omega)
theorem min_rawT (hh : A.handled = none) (hl : s.heap.IsTuple l its.toArray) (hi : IntsAre its ns) (hne : 0 < ns.length)
    (h : ∀ h' tk M t', (∀ b o, s.heap.get? b = some o → h'.get? b = some o) → M ∈ ns → (∀ a, a ∈ ns → M ≤ a) → Q (.int M t') { s with heap := h', toks := tk }) : wpAny (model prog w) A (call (.builtin "min") [.ref l]) Q E s := by
  obtain ⟨xs, e⟩ := hi.allInts.items
  have hn : numsOf (intItems xs).toList = ns := by rw [← e]; exact hi.numsOf
  rw [nums_intItems] at hn
  subst hn
  rw [e] at hl
  have hsz : 0 < xs.size := by simpa using hne
  refine min_intTup hh hl hsz fun v h' tk hv hk => ?_
  obtain ⟨t, rfl⟩ := intItems_at hv
  obtain ⟨h1, h2⟩ := argBest_lt (numAt xs) (xs.size - 1)
  refine h h' tk _ t hk ?_ fun a ha => ?_
  · rw [numAt_eq]; exact PySem.getD_mem (by rw [List.length_map, Array.length_toList]; omega)
  · obtain ⟨j, hj, rfl⟩ := mem_getD ha
    rw [List.length_map, Array.length_toList] at hj
    rw [← numAt_eq]; exact h2 j (by omega)
end
/-! ### t[::-1] -/
section
variable {prog : Program} {w : World} {A : Around} {E : Value → Shared → Prop} {s : Shared}
theorem sliceApplied_rev {sl : Addr} {vs : Value} {n : Nat} {Q : Int × Int × Nat → Shared → Prop} (hs : s.heap.IsSliceOf sl .none .none vs) (ps : IsPart vs (some (-1)))
    (h : Q ((n : Int) - 1, -1, n) s) : wpAny (model prog w) A (Builtin.Slice.sliceApplied (.ref sl) (pure (n : Int))) Q E s := by
  obtain ⟨os, hos, hcs, hds⟩ := id hs
  unfold Builtin.Slice.sliceApplied Builtin.Slice.sliceFields
  refine wpAny_bind (wpAny_bind (wpAny_field hos hds (x := .none) rfl (wpAny_bind (wpAny_field hos hds (x := .none) rfl (wpAny_bind (wpAny_field hos hds (x := vs) rfl (wpAny_pure ?_)))))))
  refine wpAny_bind (slicePart_ ps ?_)
  show wpAny _ _ (if ((-1 : Int) == 0) = true then _ else _) _ _ s
  rw [if_neg (by decide)]
  refine wpAny_bind (slicePart_none (wpAny_bind (slicePart_none (wpAny_bind (wpAny_pure ?_)))))
  show wpAny _ _ (pure ((n : Int) - 1, (-1 : Int), Builtin.Slice.slicePlaces ((n : Int) - 1) (-1) (-1))) _ _ s
  have e : Builtin.Slice.slicePlaces ((n : Int) - 1) (-1) (-1) = n := by
    unfold Builtin.Slice.slicePlaces
    rw [if_neg (by decide), show (- -1 : Int) = 1 by decide, Int.ediv_one]
    split <;> omega
  rw [e]
  exact wpAny_pure h
theorem fm_congr {α β : Type} {f g : α → Option β} : ∀ {l : List α}, (∀ x ∈ l, f x = g x) → l.filterMap f = l.filterMap g
  | [], _ => rfl
  | x :: l, h => by
    rw [List.filterMap_cons, List.filterMap_cons, h x (List.mem_cons_self ..), fm_congr fun y hy => h y (List.mem_cons_of_mem _ hy)]
theorem pick_rev (xs : Array Value) : ((List.range xs.size).filterMap fun (m : Nat) => xs[((xs.size : Int) - 1 + (m : Int) * (-1)).toNat]?).toArray = xs.toList.reverse.toArray := by
  have e : ((List.range xs.size).filterMap fun (m : Nat) => xs[((xs.size : Int) - 1 + (m : Int) * (-1)).toNat]?) = (((List.range xs.size).map fun k => xs.size - 1 - k).filterMap (xs[·]?)) := by
    rw [List.filterMap_map]
    refine fm_congr fun m hm => ?_
    have := List.mem_range.mp hm
    have e : ((xs.size : Int) - 1 + (m : Int) * (-1)).toNat = xs.size - 1 - m := by omega
    show xs[((xs.size : Int) - 1 + (m : Int) * (-1)).toNat]? = xs[xs.size - 1 - m]?
    rw [e]
  rw [e, PySem.W.krv_range, List.filterMap_reverse, PySem.W.krv_all]
theorem getItem_tuple_rev {t sl : Addr} {items : Array Value} {vs : Value} {Q : Value → Shared → Prop} (ht : IsTup s.heap t items) (hs : s.heap.IsSliceOf sl .none .none vs) (ps : IsPart vs (some (-1)))
    (h : Q (.ref s.heap.objs.size) { s with heap := s.heap.push { cls := .type "tuple", data := .seq items.toList.reverse.toArray } })
    (hsz : items.size ≤ sizeLine) : wpAny (model prog w) A (getItem (.ref t) (.ref sl)) Q E s := by
  have htake : sizeOk (.seq items.toList.reverse.toArray) := by
    show items.toList.reverse.toArray.size ≤ sizeLine
    rw [List.size_toArray, List.length_reverse, Array.length_toList]
    exact hsz
  obtain ⟨os, hos, hcs, hds⟩ := id hs
  have hTs : s.TypeIs (.ref sl) "slice" := ⟨os, hos, hcs⟩
  unfold getItem
  try with_reducible refine wpAny_holding ?_
  first | refine wpAny_bind (wpAny_pure ?_) | skip
  refine wpAny_bind (wpAny_sequenceKey ht.typeIs (by decide) ?_)
  refine wpAny_bind (wpAny_callSpecial?_slot (name := Str.ofString "__getitem__") ht.typeIs PyProof.Rows.slot_tuple_getitem
    (wpAny_call_entry PyProof.Rows.slot_tuple_getitem ht.typeIs entry_tuple_getitem ?_ (args_tuple_getitem _ _)))
  show wpAny _ _ (Builtin.Tuple.tupleItemsOf (.ref t) >>= _) _ _ s
  refine wpAny_bind (tupleItemsOf_ ht ?_)
  refine wpAny_bind (wpAny_typeOf hTs ?_)
  rw [if_pos (by decide)]
  refine wpAny_bind (sliceApplied_rev hs ps ?_)
  show wpAny _ _ (if (((items.size : Int) - 1) == 0 && (-1 : Int) == 1 && items.size == items.size) = true then _ else _) _ _ s
  rw [if_neg (by simp), pick_rev]
  first
    | exact wpAny_bind (m := Builtin.Tuple.tupleExact _) (wpAny_newObj_type (wpAny_pure ⟨_, rfl, wpAny_pure h⟩) htake)
    | exact wpAny_bind (m := Builtin.Tuple.tupleExact _) (wpAny_newObj_type (wpAny_bind (wpAny_pure (wpAny_pure ⟨_, rfl, wpAny_pure h⟩))) htake)
    | exact wpAny_bind (wpAny_bind (m := Builtin.Tuple.tupleExact _) (wpAny_newObj_type (wpAny_pure (wpAny_pure ⟨_, rfl, wpAny_pure h⟩)) htake))
    | exact wpAny_bind (wpAny_bind (m := Builtin.Tuple.tupleExact _) (wpAny_newObj_type (wpAny_pure ⟨_, rfl, wpAny_pure h⟩) htake))
end
end HT
namespace L2
open PySem PySem.Spec PyProof.Rows
section
variable {X : Cx}
def rMaxT (K : PySem.W.Frag) : List V → Hp → VK → Prop := fun vs H Q => ∃ (a : Addr) (ns : List Int), vs = [V.ref a] ∧ SqT K H a (ns.map V.int) ∧ 0 < ns.length ∧ ∀ m, m ∈ ns → (∀ y, y ∈ ns → y ≤ m) → Q (.int m) H
def rMinT (K : PySem.W.Frag) : List V → Hp → VK → Prop := fun vs H Q => ∃ (a : Addr) (ns : List Int), vs = [V.ref a] ∧ SqT K H a (ns.map V.int) ∧ 0 < ns.length ∧ ∀ m, m ∈ ns → (∀ y, y ∈ ns → m ≤ y) → Q (.int m) H
theorem cr_maxT (hc : X.calm = true) : CallR X (.builtin "max") (rMaxT X.K) := by
  intro pins s σ H vs us Q I r h
  obtain ⟨a, ns, rfl, hs, hne, q⟩ := h
  obtain ⟨its, rv, hl, _⟩ := I.tuple hs
  rw [Vals.ref1 r]
  exact HT.max_rawT (I.ok.hd hc) hl (intsAre_of rv) hne fun h' tk m t' hk h1 h2 => ⟨.int _, H, I.kept hk, ⟨_, rfl⟩, q m h1 h2⟩
theorem cr_minT (hc : X.calm = true) : CallR X (.builtin "min") (rMinT X.K) := by
  intro pins s σ H vs us Q I r h
  obtain ⟨a, ns, rfl, hs, hne, q⟩ := h
  obtain ⟨its, rv, hl, _⟩ := I.tuple hs
  rw [Vals.ref1 r]
  exact HT.min_rawT (I.ok.hd hc) hl (intsAre_of rv) hne fun h' tk m t' hk h1 h2 => ⟨.int _, H, I.kept hk, ⟨_, rfl⟩, q m h1 h2⟩
def tRevA (K : PySem.W.Frag) (te : TE) : TE := fun σ H Q => te σ H fun x H1 => (∃ a xs, x = .ref a ∧ SqL K H1 a xs ∧ ∀ p, H1 p = none → Q (.ref p) (upd H1 p (.lst xs.reverse))) ∨ (∃ a xs, x = .ref a ∧ SqT K H1 a xs ∧ ∀ p, H1 p = none → Q (.ref p) (upd H1 p (.tup xs.reverse)))
theorem pe_revA {e : Expr} {te : TE} {k : Nat} {p1 p2 p3 pos : Pos} (he : PE X e te) : PE X (.Subscript e (.Slice none none (some (.UnaryOp .USub (.Constant (.int 1) k p1) p2)) p3) pos) (tRevA X.K te) := by
  refine ⟨fun pins s σ H Q I h => ?_⟩
  refine Subscript_ (thn (he.run pins s σ H _ I h) fun v s1 ⟨x, H1, I1, r1, q1⟩ => ?_)
  have hst : PO X (some (.UnaryOp .USub (.Constant (.int 1) k p1) p2)) (tPart (tUn (rU fun i => .int (-i)) (tC (.int 1)))) := po_some (pe_un un_neg pe_int)
  refine wpAny_Slice (thn (po_none.run pins s1 σ H1 (fun o H2 => o = none ∧ H2 = H1) I1 ⟨rfl, rfl⟩) fun vl s2 ⟨l, H2, I2, pl, el, e2⟩ => ?_)
  subst el e2
  refine thn (po_none.run pins s2 σ H2 (fun o H3 => o = none ∧ H3 = H2) I2 ⟨rfl, rfl⟩) fun vu s3 ⟨u, H3, I3, pu, eu, e3⟩ => ?_
  subst eu e3
  refine thn (hst.run pins s3 σ H3 (fun o H4 => o = some (-1) ∧ H4 = H3) I3 ⟨1, rfl, -1, rfl, rfl, rfl⟩) fun vs s4 ⟨o, H4, I4, ps, eo, e4⟩ => ?_
  subst eo e4
  have I5 : Inv X pins σ H4 { s4 with heap := s4.heap.push { cls := .type "slice", data := .fields #[vl, vu, vs] } } := I4.kept (t' := s4.toks) fun b ob q => Heap.get?_push_of_some _ q
  rcases q1 with ⟨a, xs, ex, hx, q⟩ | ⟨a, xs, ex, hx, q⟩
  · subst ex
    cases r1
    obtain ⟨its, r, ht, hz⟩ := I5.list hx
    have hlen := r.length
    show wpAny (model X.prog X.w) X.A (subscriptTail e (.Slice none none (some (.UnaryOp .USub (.Constant (.int 1) k p1) p2)) p3) (.ref a) (.ref s4.heap.objs.size)) (EP X pins σ Q) X.xe { s4 with heap := s4.heap.push { cls := .type "slice", data := .fields #[vl, vu, vs] } }
    refine tail_any (ops := [.ref a, .ref s4.heap.objs.size]) ht.isList.typeIs (PySem.slot_list_getitem.lookup) ?_ (by with_unfolding_all rfl)
    refine wpAny_getItem_list_slice ht.isList (Heap.IsSliceOf.new _ vl vu vs) pl pu ps (by decide) ?_ (by rw [List.size_toArray]; omega)
    rw [PySem.W.krv_pick]
    refine ⟨.ref _, _, I5.laid (t' := s4.toks) (o := .lst xs.reverse) (fun b ob q => Heap.get?_push_of_some _ q) (Nat.le_refl _) ?_, rfl, q _ (I5.hok.fresh (Nat.le_refl _))⟩
    exact ⟨by rw [List.length_reverse]; exact hz, _, 0, r.reverse, Heap.get?_push_size _ rfl⟩
  · subst ex
    cases r1
    cases pl
    cases pu
    obtain ⟨its, r, ht, hz⟩ := I5.tuple hx
    have hlen := r.length
    show wpAny (model X.prog X.w) X.A (subscriptTail e (.Slice none none (some (.UnaryOp .USub (.Constant (.int 1) k p1) p2)) p3) (.ref a) (.ref s4.heap.objs.size)) (EP X pins σ Q) X.xe { s4 with heap := s4.heap.push { cls := .type "slice", data := .fields #[.none, .none, vs] } }
    refine tail_any (ops := [.ref a, .ref s4.heap.objs.size]) ht.typeIs (PyProof.Rows.slot_tuple_getitem.lookup) ?_ (by with_unfolding_all rfl)
    refine HT.getItem_tuple_rev ht (Heap.IsSliceOf.new _ .none .none vs) ps ?_ (by rw [List.size_toArray]; omega)
    refine ⟨.ref _, _, I5.laid (t' := s4.toks) (o := .tup xs.reverse) (fun b ob q => Heap.get?_push_of_some _ q) (Nat.le_refl _) ?_, rfl, q _ (I5.hok.fresh (Nat.le_refl _))⟩
    exact ⟨by rw [List.length_reverse]; exact hz, _, r.reverse, IsTup.new _ _⟩
end
/-! ### a step above 0 -/
theorem rangeSize_up {a b c : Int} (hc : 0 < c) : Builtin.Range.rangeSize a b c = (((b - a + c - 1) / c).toNat : Int) := by
  unfold Builtin.Range.rangeSize
  rw [if_pos hc]
  split
  · have e : b - a + c - 1 = b - a - 1 + 1 * c := by omega
    rw [e, Int.add_mul_ediv_right _ _ (by omega)]
    have := Int.ediv_nonneg (by omega : 0 ≤ b - a - 1) (by omega : 0 ≤ c)
    omega
  · have : (b - a + c - 1) / c ≤ 0 := by
      have : (b - a + c - 1) / c < 1 := Int.ediv_lt_of_lt_mul hc (by omega)
      omega
    omega
theorem RgC.pos {i j c : Int} (ha : -(2 ^ 62) ≤ i) (ha' : i < 2 ^ 62) (hb : -(2 ^ 62) ≤ j) (hb' : j < 2 ^ 62) (hc : 0 < c) (hc' : c < 1073741824) : RgC i j c ((j - i + c - 1) / c).toNat := by
  have e := rangeSize_up (a := i) (b := j) hc
  refine ⟨by omega, by omega, ?_, e⟩
  have le : (j - i + c - 1) / c ≤ j - i + c - 1 ∨ j - i + c - 1 < 0 := by
    by_cases h : j - i + c - 1 < 0
    · exact .inr h
    · exact .inl (Int.ediv_le_self _ (by omega))
  have le2 : (j - i + c - 1) / c ≤ 2 ^ 63 - 1 := by
    rcases le with h | h
    · by_cases h1 : j - i + c - 1 ≤ 2 ^ 63 - 2
      · omega
      · have : (j - i + c - 1) / c ≤ (j - i - 1) / c + 1 := by
          have e2 : j - i + c - 1 = j - i - 1 + 1 * c := by omega
          rw [e2, Int.add_mul_ediv_right _ _ (by omega)]
          omega
        have := Int.ediv_le_self (a := j - i - 1) c (by omega)
        omega
    · have := Int.ediv_neg_of_neg_of_pos h hc
      omega
  unfold Builtin.Range.small
  rw [e]
  simp only [Builtin.Range.rangeFitsLong, Bool.and_eq_true, Bool.or_eq_true, decide_eq_true_eq, beq_iff_eq, if_pos hc]
  omega
end L2
end
section
set_option Elab.async false
set_option linter.all false
set_option maxRecDepth 100000
set_option maxHeartbeats 4000000
/-! zip of a list and a tuple, turned from the kit's zip of two tuples -/
namespace RZM
open PySem RZ
open PySem.Sem (wp)
section
variable {prog : Program} {w : World} {A : Around} {E : Value → Shared → Prop} {s : Shared}
theorem zipM_next_item {z TI TO i1 i2 l1 l2 : Addr} {k1 k2 : Nat} {xs ys : Array Value} {x y a b : Value} {Q : Value → Shared → Prop} (D : ZipApart z TI TO i1 i2 l1 l2)
    (hz : IsZip s.heap z TI TO .none) (hTI : IsPair s.heap TI (.ref i1) (.ref i2)) (hTO : IsPair s.heap TO a b)
    (h1 : s.heap.IsListIter i1 l1 k1) (h2 : s.heap.IsTupleIter i2 l2 k2) (hl1 : s.heap.IsList l1 xs) (hl2 : s.heap.IsTuple l2 ys) (hx : xs[k1]? = some x) (hy : ys[k2]? = some y)
    (hQ : ∀ h', IsZip h' z TI TO (rawInt s.heap.objs.size) → IsPair h' TO x y → h'.IsListIter i1 l1 (k1 + 1) → h'.IsTupleIter i2 l2 (k2 + 1) → IsPair h' s.heap.objs.size x y → h'.objs.size = s.heap.objs.size + 1 →
      (∀ c o, c ≠ z → c ≠ TO → c ≠ i1 → c ≠ i2 → s.heap.get? c = some o → h'.get? c = some o) → Q (.ref s.heap.objs.size) { s with heap := h' }) :
    wpAny (model prog w) A (Builtin.«zip.__next__» ⟨[.ref z], []⟩) (fun fin s' => ∃ v, fin = .done (.ret v) ∧ Q v s') E s := by
  show wpAny _ _ (field (.ref z) 2 >>= _) _ _ _
  refine wpAny_bind (wpAny_field hz rfl (x := .bool false) rfl ?_)
  show wpAny _ _ (field (.ref z) 3 >>= _) _ _ _
  refine wpAny_bind (wpAny_field hz rfl (x := .ref TI) rfl ?_)
  refine wpAny_bind (wpAny_seqItems hTI rfl ?_)
  show wpAny _ _ (Builtin.SmallTypes.ownedTupleIsFree (.ref z) >>= _) _ _ _
  refine wpAny_bind ?_
  unfold Builtin.SmallTypes.ownedTupleIsFree
  refine wpAny_bind (wpAny_field hz rfl (x := .none) rfl (wpAny_pure ?_))
  simp only [if_true]
  refine wpAny_bind (wpAny_rule ?_)
  refine wpAny_bind (wpAny_field hz rfl (x := .ref TO) rfl ?_)
  refine wpAny_bind (wpAny_setField_rec hz (by simp) fun h₁ hz₁ hs₁ => ?_)
  replace hz₁ : IsZip h₁ z TI TO .ellipsis := hz₁
  refine wpAny_bind ?_
  simp only [List.zipIdx_cons, List.zipIdx_nil, List.forIn_cons, List.forIn_nil]

  refine wpAny_bind (wpAny_bind (wpAny_onRaise ?_))
  show wpAny _ _ (Builtin.SmallTypes.nextOf (.ref i1) >>= _) _ _ _
  refine wpAny_bind (wpAny_nextOf_list_item (h1.extBut hs₁.extBut D.i1z) (hl1.extBut hs₁.extBut D.l1z) hx fun h₂ h1₂ hs₂ => wpAny_pure ?_)
  have hTO₂ : IsPair h₂ TO a b := hs₂.extBut _ _ D.TOi1 (hs₁.extBut _ _ D.TOz hTO)
  refine wpAny_bind (wpAny_seqItems hTO₂ rfl ?_)
  refine wpAny_bind (wpAny_updateSeq_pair hTO₂ fun h₃ hTO₃ hs₃ => ?_)
  replace hTO₃ : IsPair h₃ TO x b := hTO₃
  refine wpAny_bind (wpAny_letGo (wpAny_pure ?_))

  refine wpAny_bind (wpAny_bind (wpAny_onRaise ?_))
  show wpAny _ _ (Builtin.SmallTypes.nextOf (.ref i2) >>= _) _ _ _
  refine wpAny_bind (nextOf_tuple_item (((h2.extBut hs₁.extBut D.i2z).extBut hs₂.extBut D.i12.symm).extBut hs₃.extBut D.TOi2.symm)
    (((hl2.extBut hs₁.extBut D.l2z).extBut hs₂.extBut D.l2i1).extBut hs₃.extBut D.l2TO) hy fun h₄ h2₄ hs₄ => wpAny_pure ?_)
  have hTO₄ : IsPair h₄ TO x b := hs₄.extBut _ _ D.TOi2 hTO₃
  refine wpAny_bind (wpAny_seqItems hTO₄ rfl ?_)
  refine wpAny_bind (wpAny_updateSeq_pair hTO₄ fun h₅ hTO₅ hs₅ => ?_)
  replace hTO₅ : IsPair h₅ TO x y := hTO₅
  refine wpAny_bind (wpAny_letGo (wpAny_pure (wpAny_pure ?_)))

  refine wpAny_bind (wpAny_seqItems hTO₅ rfl ?_)
  refine wpAny_bind (wpAny_newTuple ?_)
  have hsz : h₅.objs.size = s.heap.objs.size := by rw [hs₅.1, hs₄.1, hs₃.1, hs₂.1, hs₁.1]
  have hz₅ : IsZip h₅ z TI TO .ellipsis := hs₅.extBut _ _ D.TOz.symm (hs₄.extBut _ _ D.i2z.symm (hs₃.extBut _ _ D.TOz.symm (hs₂.extBut _ _ D.i1z.symm hz₁)))
  have hk₅ : ∀ c o, c ≠ z → c ≠ TO → c ≠ i1 → c ≠ i2 → s.heap.get? c = some o → h₅.get? c = some o := fun c o c1 c2 c3 c4 e =>
    hs₅.extBut _ _ c2 (hs₄.extBut _ _ c4 (hs₃.extBut _ _ c2 (hs₂.extBut _ _ c3 (hs₁.extBut _ _ c1 e))))
  have h1₅ : h₅.IsListIter i1 l1 (k1 + 1) := ((h1₂.extBut hs₃.extBut D.TOi1.symm).extBut hs₄.extBut D.i12).extBut hs₅.extBut D.TOi1.symm
  have h2₅ : h₅.IsTupleIter i2 l2 (k2 + 1) := h2₄.extBut hs₅.extBut D.TOi2.symm
  have hzlt : z < h₅.objs.size := Heap.lt_size hz₅
  have hTOlt : TO < h₅.objs.size := Heap.lt_size hTO₅
  have hi1lt : i1 < h₅.objs.size := by obtain ⟨_, e, _⟩ := h1₅; exact Heap.lt_size e
  have hi2lt : i2 < h₅.objs.size := by obtain ⟨_, e, _⟩ := h2₅; exact Heap.lt_size e
  show wpAny _ _ (Builtin.SmallTypes.ownedTupleHandOut (.ref z) (.ref h₅.objs.size) >>= _) _ _ _
  refine wpAny_bind ?_
  unfold Builtin.SmallTypes.ownedTupleHandOut
  have hz₆ : IsZip (h₅.push { cls := .type "tuple", data := .seq #[x, y] }) z TI TO .ellipsis := Heap.get?_push_of_some _ hz₅
  refine wpAny_bind (wpAny_setField_rec hz₆ (by simp) fun h₇ hz₇ hs₇ => ?_)
  replace hz₇ : IsZip h₇ z TI TO (rawInt h₅.objs.size) := hz₇
  refine wpAny_setField_rec hz₇ (by simp) fun h₈ hz₈ hs₈ => ?_
  replace hz₈ : IsZip h₈ z TI TO (rawInt h₅.objs.size) := hz₈
  have up : ∀ c o, c ≠ z → h₅.get? c = some o → h₈.get? c = some o := fun c o c1 e => hs₈.extBut _ _ c1 (hs₇.extBut _ _ c1 (Heap.get?_push_of_some _ e))
  have hT₈ : IsPair h₈ h₅.objs.size x y := hs₈.extBut _ _ (Nat.ne_of_gt hzlt) (hs₇.extBut _ _ (Nat.ne_of_gt hzlt) (Heap.get?_push_size _ rfl))
  have hz8 : h₈.objs.size = h₅.objs.size + 1 := by rw [hs₈.1, hs₇.1, Heap.size_push]
  rw [hsz] at hz₈ hT₈ hz8
  refine wpAny_pure ⟨_, rfl, ?_⟩
  show Q (.ref h₅.objs.size) _
  rw [hsz]
  exact hQ h₈ hz₈ (up _ _ D.TOz hTO₅) (h1₅.at fun o e => up _ o D.i1z e) (h2₅.at fun o e => up _ o D.i2z e) hT₈ hz8 fun c o c1 c2 c3 c4 e => up c o c1 (hk₅ c o c1 c2 c3 c4 e)

theorem zipM_next_end {z TI TO i1 i2 l1 l2 : Addr} {k1 k2 : Nat} {xs ys : Array Value} {a b : Value} {Q : Fin → Shared → Prop} (hh : A.handled = none) (D : ZipApart z TI TO i1 i2 l1 l2)
    (hz : IsZip s.heap z TI TO .none) (hTI : IsPair s.heap TI (.ref i1) (.ref i2)) (hTO : IsPair s.heap TO a b)
    (h1 : s.heap.IsListIter i1 l1 k1) (h2 : s.heap.IsTupleIter i2 l2 k2) (hl1 : s.heap.IsList l1 xs) (hl2 : s.heap.IsTuple l2 ys) (hend : xs[k1]? = none ∨ ys[k2]? = none)
    (hE : ∀ h' e, (∀ c o, c ≠ z → c ≠ TO → c ≠ i1 → c ≠ i2 → s.heap.get? c = some o → h'.get? c = some o) → (∃ o, h'.get? e = some o ∧ o.cls = .type "StopIteration") → E (.ref e) { s with heap := h' }) :
    wpAny (model prog w) A (Builtin.«zip.__next__» ⟨[.ref z], []⟩) Q E s := by
  show wpAny _ _ (field (.ref z) 2 >>= _) _ _ _
  refine wpAny_bind (wpAny_field hz rfl (x := .bool false) rfl ?_)
  show wpAny _ _ (field (.ref z) 3 >>= _) _ _ _
  refine wpAny_bind (wpAny_field hz rfl (x := .ref TI) rfl ?_)
  refine wpAny_bind (wpAny_seqItems hTI rfl ?_)
  show wpAny _ _ (Builtin.SmallTypes.ownedTupleIsFree (.ref z) >>= _) _ _ _
  refine wpAny_bind ?_
  unfold Builtin.SmallTypes.ownedTupleIsFree
  refine wpAny_bind (wpAny_field hz rfl (x := .none) rfl (wpAny_pure ?_))
  simp only [if_true]
  refine wpAny_bind (wpAny_rule ?_)
  refine wpAny_bind (wpAny_field hz rfl (x := .ref TO) rfl ?_)
  refine wpAny_bind (wpAny_setField_rec hz (by simp) fun h₁ hz₁ hs₁ => ?_)
  replace hz₁ : IsZip h₁ z TI TO .ellipsis := hz₁
  refine wpAny_bind ?_
  simp only [List.zipIdx_cons, List.zipIdx_nil, List.forIn_cons, List.forIn_nil]
  refine wpAny_bind (wpAny_bind (wpAny_onRaise ?_))
  show wpAny _ _ (Builtin.SmallTypes.nextOf (.ref i1) >>= _) _ _ _
  cases hx : xs[k1]? with
  | none =>
    refine wpAny_bind (wpAny_nextOf_list_end hh (h1.extBut hs₁.extBut D.i1z) (hl1.extBut hs₁.extBut D.l1z) hx fun h₂ e hs₂ he => ?_)
    obtain ⟨oe, hoe, hce⟩ := he
    have hz₂ : IsZip h₂ z TI TO .ellipsis := hs₂ _ _ D.i1z.symm hz₁
    have hez : e ≠ z := fun x => by subst x; rw [hz₂] at hoe; cases hoe; simp at hce
    refine wpAny_setField_rec hz₂ (by simp) fun h₃ _ hs₃ => hE h₃ e (fun c o c1 _ c3 _ x => hs₃.extBut _ _ c1 (hs₂ _ _ c3 (hs₁.extBut _ _ c1 x))) ⟨oe, hs₃.extBut _ _ hez hoe, hce⟩
  | some x =>
    have hy : ys[k2]? = none := by rcases hend with h | h; rw [hx] at h; cases h; exact h
    refine wpAny_bind (wpAny_nextOf_list_item (h1.extBut hs₁.extBut D.i1z) (hl1.extBut hs₁.extBut D.l1z) hx fun h₂ h1₂ hs₂ => wpAny_pure ?_)
    have hTO₂ : IsPair h₂ TO a b := hs₂.extBut _ _ D.TOi1 (hs₁.extBut _ _ D.TOz hTO)
    refine wpAny_bind (wpAny_seqItems hTO₂ rfl ?_)
    refine wpAny_bind (wpAny_updateSeq_pair hTO₂ fun h₃ hTO₃ hs₃ => ?_)
    refine wpAny_bind (wpAny_letGo (wpAny_pure ?_))
    refine wpAny_bind (wpAny_bind (wpAny_onRaise ?_))
    show wpAny _ _ (Builtin.SmallTypes.nextOf (.ref i2) >>= _) _ _ _
    refine wpAny_bind (nextOf_tuple_end hh (((h2.extBut hs₁.extBut D.i2z).extBut hs₂.extBut D.i12.symm).extBut hs₃.extBut D.TOi2.symm)
      (((hl2.extBut hs₁.extBut D.l2z).extBut hs₂.extBut D.l2i1).extBut hs₃.extBut D.l2TO) hy fun h₄ e hs₄ he => ?_)
    obtain ⟨oe, hoe, hce⟩ := he
    have hz₄ : IsZip h₄ z TI TO .ellipsis := hs₄ _ _ D.i2z.symm (hs₃.extBut _ _ D.TOz.symm (hs₂.extBut _ _ D.i1z.symm hz₁))
    have hez : e ≠ z := fun x => by subst x; rw [hz₄] at hoe; cases hoe; simp at hce
    refine wpAny_setField_rec hz₄ (by simp) fun h₅ _ hs₅ => hE h₅ e (fun c o c1 c2 c3 c4 x => hs₅.extBut _ _ c1 (hs₄ _ _ c4 (hs₃.extBut _ _ c2 (hs₂.extBut _ _ c3 (hs₁.extBut _ _ c1 x))))) ⟨oe, hs₅.extBut _ _ hez hoe, hce⟩

theorem pyNext_zipM_item {z TI TO i1 i2 l1 l2 : Addr} {k1 k2 : Nat} {xs ys : Array Value} {x y a b : Value} {Q : Option Value → Shared → Prop} (D : ZipApart z TI TO i1 i2 l1 l2)
    (hz : IsZip s.heap z TI TO .none) (hTI : IsPair s.heap TI (.ref i1) (.ref i2)) (hTO : IsPair s.heap TO a b)
    (h1 : s.heap.IsListIter i1 l1 k1) (h2 : s.heap.IsTupleIter i2 l2 k2) (hl1 : s.heap.IsList l1 xs) (hl2 : s.heap.IsTuple l2 ys) (hx : xs[k1]? = some x) (hy : ys[k2]? = some y)
    (hQ : ∀ h', IsZip h' z TI TO (rawInt s.heap.objs.size) → IsPair h' TO x y → h'.IsListIter i1 l1 (k1 + 1) → h'.IsTupleIter i2 l2 (k2 + 1) → IsPair h' s.heap.objs.size x y → h'.objs.size = s.heap.objs.size + 1 →
      (∀ c o, c ≠ z → c ≠ TO → c ≠ i1 → c ≠ i2 → s.heap.get? c = some o → h'.get? c = some o) → Q (some (.ref s.heap.objs.size)) { s with heap := h' }) :
    wpAny (model prog w) A (pyNext (.ref z)) Q E s := by
  have hT : s.TypeIs (.ref z) "zip" := ⟨_, hz, rfl⟩
  unfold pyNext
  exact wpAny_bind (wpAny_attempt (wpAny_callSpecial?_slot (name := Str.ofString "__next__") hT F.slot_zip_next
    (wpAny_call_entry F.slot_zip_next hT F.entry_zip_next
      (zipM_next_item D hz hTI hTO h1 h2 hl1 hl2 hx hy fun h' a1 a2 a3 a4 a5 a6 a7 => wpAny_pure (hQ h' a1 a2 a3 a4 a5 a6 a7)) (F.args_zip_next_1 _))))

theorem pyNext_zipM_end {z TI TO i1 i2 l1 l2 : Addr} {k1 k2 : Nat} {xs ys : Array Value} {a b : Value} {Q : Option Value → Shared → Prop} (hh : A.handled = none) (D : ZipApart z TI TO i1 i2 l1 l2)
    (hz : IsZip s.heap z TI TO .none) (hTI : IsPair s.heap TI (.ref i1) (.ref i2)) (hTO : IsPair s.heap TO a b)
    (h1 : s.heap.IsListIter i1 l1 k1) (h2 : s.heap.IsTupleIter i2 l2 k2) (hl1 : s.heap.IsList l1 xs) (hl2 : s.heap.IsTuple l2 ys) (hend : xs[k1]? = none ∨ ys[k2]? = none)
    (hQ : ∀ h', (∀ c o, c ≠ z → c ≠ TO → c ≠ i1 → c ≠ i2 → s.heap.get? c = some o → h'.get? c = some o) → Q none { s with heap := h' }) : wpAny (model prog w) A (pyNext (.ref z)) Q E s := by
  have hT : s.TypeIs (.ref z) "zip" := ⟨_, hz, rfl⟩
  unfold pyNext
  refine wpAny_bind (wpAny_attempt (wpAny_callSpecial?_slot (name := Str.ofString "__next__") hT F.slot_zip_next
    (wpAny_call_entry F.slot_zip_next hT F.entry_zip_next (zipM_next_end hh D hz hTI hTO h1 h2 hl1 hl2 hend fun h' e hk he => ?_) (F.args_zip_next_1 _))))
  obtain ⟨o, ho, hc⟩ := he
  refine wpAny_bind (wpAny_isInstance (T := "StopIteration") (b := true) ⟨o, ho, hc⟩ isSubtype_stop ?_)
  exact wpAny_pure (hQ _ hk)
end

abbrev zipMH1 (h : Heap) (l1 : Addr) : Heap := h.push { cls := .type "list_iterator", data := .fields #[.ref l1, .int 0 0] }
abbrev zipMH2 (h : Heap) (l1 l2 : Addr) : Heap := (zipMH1 h l1).push { cls := .type "tuple_iterator", data := .fields #[.ref l2, .int 0 0] }
abbrev zipMH3 (h : Heap) (l1 l2 : Addr) : Heap := (zipMH2 h l1 l2).push { cls := .type "tuple", data := .seq #[.ref h.objs.size, .ref (zipMH1 h l1).objs.size] }
abbrev zipMH4 (h : Heap) (l1 l2 : Addr) : Heap := (zipMH3 h l1 l2).push { cls := .type "tuple", data := .seq #[.none, .none] }
abbrev zipMH5 (h : Heap) (l1 l2 : Addr) : Heap := (zipMH4 h l1 l2).push { cls := .type "zip", data := .fields #[.none, .bool false, .bool false, .ref (zipMH2 h l1 l2).objs.size, .ref (zipMH3 h l1 l2).objs.size] }

theorem meets_zipM_new (l1 l2 : Addr) (xs ys : Array Value) :
    Meets (Builtin.«zip.__new__» ⟨[.type "zip", .ref l1, .ref l2], []⟩) (fun _ R s => s.heap.IsList l1 xs ∧ s.heap.IsTuple l2 ys ∧
      R (.ok (.ret (.ref (zipMH4 s.heap l1 l2).objs.size))) { s with heap := zipMH5 s.heap l1 l2 }) :=
  .of_wp fun prog w A R s h => by
    obtain ⟨hp, g, d, tk, os⟩ := s; obtain ⟨hl1, hl2, h⟩ := h
    have hsub := sub_zip
    have hL1 : Heap.IsList (Shared.heap ⟨hp, g, d, tk, os⟩) l1 xs := hl1
    have hL2 : Heap.IsTuple (Shared.heap ⟨hp.push { cls := .type "list_iterator", data := .fields #[.ref l1, .int 0 0] }, g, d, tk, os⟩) l2 ys := Heap.IsTuple.push hl2 _
    wp_walk using wpAny_pyIter_list hL1, wpAny_pyIter_tuple hL2
    exact ⟨_, rfl, h⟩

section
variable {prog : Program} {w : World} {A : Around} {E : Value → Shared → Prop} {s : Shared}

theorem call_zipM {l1 l2 : Addr} {xs ys : Array Value} {Q : Value → Shared → Prop} (hl1 : s.heap.IsList l1 xs) (hl2 : s.heap.IsTuple l2 ys)
    (h : ∀ h', IsZip h' (s.heap.objs.size + 4) (s.heap.objs.size + 2) (s.heap.objs.size + 3) .none → IsPair h' (s.heap.objs.size + 2) (.ref s.heap.objs.size) (.ref (s.heap.objs.size + 1)) →
      IsPair h' (s.heap.objs.size + 3) .none .none → h'.IsListIter s.heap.objs.size l1 0 → h'.IsTupleIter (s.heap.objs.size + 1) l2 0 → h'.objs.size = s.heap.objs.size + 5 →
      (∀ c o, s.heap.get? c = some o → h'.get? c = some o) → Q (.ref (s.heap.objs.size + 4)) { s with heap := h' }) :
    wpAny (model prog w) A (call (.type "zip") [.ref l1, .ref l2]) Q E s := by
  refine callType_new F.called_zip (by decide) (F.typeCall_zip_2 _ _) (F.newCall_zip_2 _ _) (fun obj => F.args_object_init_3 obj _ _) F.entry_zip_new
    (meets_zipM_new l1 l2 xs ys) ⟨hl1, hl2, ?_⟩
  have z1 : (zipMH1 s.heap l1).objs.size = s.heap.objs.size + 1 := Heap.size_push ..
  have z2 : (zipMH2 s.heap l1 l2).objs.size = s.heap.objs.size + 2 := by rw [Heap.size_push, z1]
  have z3 : (zipMH3 s.heap l1 l2).objs.size = s.heap.objs.size + 3 := by rw [Heap.size_push, z2]
  have z4 : (zipMH4 s.heap l1 l2).objs.size = s.heap.objs.size + 4 := by rw [Heap.size_push, z3]
  have z5 : (zipMH5 s.heap l1 l2).objs.size = s.heap.objs.size + 5 := by rw [Heap.size_push, z4]
  have g5 : (zipMH5 s.heap l1 l2).get? (zipMH4 s.heap l1 l2).objs.size = some _ := Heap.get?_push_size _ rfl
  have g4 : (zipMH5 s.heap l1 l2).get? (zipMH3 s.heap l1 l2).objs.size = some _ := Heap.get?_push_of_some _ (Heap.get?_push_size _ rfl)
  have g3 : (zipMH5 s.heap l1 l2).get? (zipMH2 s.heap l1 l2).objs.size = some _ := Heap.get?_push_of_some _ (Heap.get?_push_of_some _ (Heap.get?_push_size _ rfl))
  have g2 : (zipMH5 s.heap l1 l2).get? (zipMH1 s.heap l1).objs.size = some _ := Heap.get?_push_of_some _ (Heap.get?_push_of_some _ (Heap.get?_push_of_some _ (Heap.get?_push_size _ rfl)))
  have g1 : (zipMH5 s.heap l1 l2).get? s.heap.objs.size = some _ := Heap.get?_push_of_some _ (Heap.get?_push_of_some _ (Heap.get?_push_of_some _ (Heap.get?_push_of_some _ (Heap.get?_push_size _ rfl))))
  show _ ∧ _
  rw [z2, z3, z4] at g5
  rw [z1, z2] at g3
  rw [z3] at g4
  rw [z1] at g2
  rw [z4]
  exact ⟨⟨_, g5, rfl⟩, h _ g5 g3 g4 ⟨_, g1, rfl, rfl⟩ ⟨_, g2, rfl, rfl⟩ z5 fun c o x =>
    Heap.get?_push_of_some _ (Heap.get?_push_of_some _ (Heap.get?_push_of_some _ (Heap.get?_push_of_some _ (Heap.get?_push_of_some _ x))))⟩
end
end RZM
namespace L2
open PySem PySem.Spec PyProof.Rows RZ RZM
/-- the list at a and the tuple at b as they stand at each turn, the items in new pairs -/
def ItzM (K : PySem.W.Frag) (a b : Addr) : It :=
  ⟨fun i H => ∃ (xs ys : List V) (x y : V), SqL K H a xs ∧ SqT K H b ys ∧ xs[i]? = some x ∧ ys[i]? = some y,
    fun i H v H' => ∃ T x y, v = .ref T ∧ H T = none ∧ H' = upd H T (.tup [x, y]) ∧ (∀ xs, SqL K H a xs → xs[i]? = some x) ∧ ∀ ys, SqT K H b ys → ys[i]? = some y,
    fun i H => ∃ xs ys : List V, SqL K H a xs ∧ SqT K H b ys ∧ (xs.length ≤ i ∨ ys.length ≤ i)⟩
theorem turn_zipM {P : Program} {w : World} {K : PySem.W.Frag} {elts : List Expr} {kk : Nat} {tpos : Pos} {a b z TI TO i1 i2 : Addr} (D : ZipApart z TI TO i1 i2 a b) :
    Turn P w K (.Tuple elts kk tpos) (ItzM K a b) [z, TI, TO, i1, i2] z (fun i h => IsZip h z TI TO .none ∧ IsPair h TI (.ref i1) (.ref i2) ∧ (∃ x y, IsPair h TO x y) ∧ h.IsListIter i1 a i ∧ h.IsTupleIter i2 b i) where
  mem := by simp
  obj := fun i h st c hc => by
    obtain ⟨hz, hTI, ⟨x, y, hTO⟩, ⟨o1, e1, _, d1⟩, ⟨o2, e2, _, d2⟩⟩ := st
    have e' : c = z ∨ c = TI ∨ c = TO ∨ c = i1 ∨ c = i2 := by simpa using hc
    rcases e' with q | q | q | q | q
    · rw [q]; exact ⟨_, hz, fun v q => nomatch q⟩
    · rw [q]; exact ⟨_, hTI, fun v q => nomatch q⟩
    · rw [q]; exact ⟨_, hTO, fun v q => nomatch q⟩
    · rw [q]; exact ⟨o1, e1, fun v q => by rw [d1] at q; cases q⟩
    · rw [q]; exact ⟨o2, e2, fun v q => by rw [d2] at q; cases q⟩
  keep := fun i h h' st k => by
    obtain ⟨hz, hTI, ⟨x, y, hTO⟩, h1, h2⟩ := st
    exact ⟨k z (by simp) _ hz, k TI (by simp) _ hTI, ⟨x, y, k TO (by simp) _ hTO⟩, h1.at fun o q => k i1 (by simp) o q, h2.at fun o q => k i2 (by simp) o q⟩
  item := by
    intro X hP hw hK hc i pins s σ H E I hf st hg
    subst hP hw hK
    obtain ⟨hz, hTI, ⟨x0, y0, hTO⟩, h1, h2⟩ := st
    obtain ⟨xs, ys, x, y, hqx, hqy, hx, hy⟩ := hg
    obtain ⟨its, rv, p, _⟩ := I.list hqx
    obtain ⟨its2, rv2, p2, _⟩ := I.tuple hqy
    obtain ⟨u, hu, ru⟩ := rv.get hx
    obtain ⟨u2, hu2, ru2⟩ := rv2.get hy
    have hzl : z < s.heap.objs.size := Heap.lt_size hz
    refine pyNext_zipM_item D hz hTI hTO h1 h2 p.isList p2 (x := u) (y := u2) (by simpa using hu) (by simpa using hu2) fun h' z' TO' h1' h2' hT hsz hk => ?_
    refine ⟨_, rfl, wpAny_letOwnedTupleGo_zip (s := { s with heap := h' }) z' fun h'' z'' sb => ?_⟩
    have hT2 : h''.get? s.heap.objs.size = some { cls := .type "tuple", data := .seq #[u, u2] } := (sb.2 _ (Nat.ne_of_gt hzl)).trans hT
    have new : ObjOk X.prog X.w (upd H s.heap.objs.size (.tup [x, y])) h'' s.heap.objs.size (.tup [x, y]) :=
      ⟨by show 2 ≤ sizeLine; decide, [u, u2], .cons ru (.cons ru2 .nil), ⟨_, hT2, rfl, _, rfl⟩⟩
    have I1 : Inv X pins σ (upd H s.heap.objs.size (.tup [x, y])) { s with heap := h'' } :=
      I.turnedNew (t' := s.toks) (ch := [z, TI, TO, i1, i2]) (fun c o hb q => (sb.2 c (fun q' => hb (by simp [q']))).trans (hk c o (fun q' => hb (by simp [q'])) (fun q' => hb (by simp [q'])) (fun q' => hb (by simp [q'])) (fun q' => hb (by simp [q'])) q)) hf (Nat.le_refl _) new
    refine ⟨.ref s.heap.objs.size, _, I1, rfl, ⟨_, x, y, rfl, I.hok.fresh (Nat.le_refl _), rfl, fun l hl => by rw [I.list_inj hl hqx]; exact hx, fun l hl => by rw [I.tuple_inj hl hqy]; exact hy⟩, ⟨z'', ?_, ⟨u, u2, ?_⟩, ?_, ?_⟩, fun c hcm => ?_⟩
    · exact (sb.2 _ D.TIz).trans (hk _ _ D.TIz D.TITO D.TIi1 D.TIi2 hTI)
    · exact (sb.2 _ D.TOz).trans TO'
    · exact h1'.at fun o q => (sb.2 _ D.i1z).trans q
    · exact h2'.at fun o q => (sb.2 _ D.i2z).trans q
    · have hlt : c < s.heap.objs.size := by
        have e' : c = z ∨ c = TI ∨ c = TO ∨ c = i1 ∨ c = i2 := by simpa using hcm
        rcases e' with q | q | q | q | q
        · rw [q]; exact hzl
        · rw [q]; exact Heap.lt_size hTI
        · rw [q]; exact Heap.lt_size hTO
        · rw [q]; obtain ⟨_, e1, _⟩ := h1; exact Heap.lt_size e1
        · rw [q]; obtain ⟨_, e2, _⟩ := h2; exact Heap.lt_size e2
      rw [upd_ne (Nat.ne_of_lt hlt)]
      exact (hf c hcm).1
  done := by
    intro X hP hw hK hc i pins s σ H E I hf st hg
    subst hP hw hK
    obtain ⟨hz, hTI, ⟨x0, y0, hTO⟩, h1, h2⟩ := st
    obtain ⟨xs, ys, hqx, hqy, hend⟩ := hg
    obtain ⟨its, rv, p, _⟩ := I.list hqx
    obtain ⟨its2, rv2, p2, _⟩ := I.tuple hqy
    have l1 := rv.length
    have l2 := rv2.length
    have he : its.toArray[i]? = none ∨ its2.toArray[i]? = none := by
      rcases hend with q | q
      · exact .inl (by simp; omega)
      · exact .inr (by simp; omega)
    exact pyNext_zipM_end (I.ok.hd hc) D hz hTI hTO h1 h2 p.isList p2 he fun h' hk => ⟨rfl, I.turnedL (t' := s.toks) (ch := [z, TI, TO, i1, i2]) (fun c o hb q =>
      hk c o (fun q' => hb (by simp [q'])) (fun q' => hb (by simp [q'])) (fun q' => hb (by simp [q'])) (fun q' => hb (by simp [q'])) q) hf⟩
  self := fun A i s Q E st h => wpAny_pyIter_zip st.1 h

def iZipB (K : PySem.W.Frag) (ta : TA) : TI := fun σ H R => ta σ H fun vs H1 => ∃ a b xs ys, vs = [.ref a, .ref b] ∧ ((SqL K H1 a xs ∧ SqL K H1 b ys ∧ R (Itz K a b) H1) ∨ (SqT K H1 a xs ∧ SqT K H1 b ys ∧ R (ItzT K a b) H1) ∨ (SqL K H1 a xs ∧ SqT K H1 b ys ∧ R (ItzM K a b) H1))
theorem pi_zipB {X : Cx} {e e2 : Expr} {ta : TA} {p pos tpos : Pos} {elts : List Expr} {kk : Nat} (hg : Gl X "zip") (hm : X.mg "zip" = none) (ha : PA X [e, e2] ta)
    (hs : starEach [e, e2] X.env = (false, eval e X.env) :: starEach [e2] X.env := by rfl) (hpl : (backTo pos (starEach [e2] X.env)).any (·.1) = false := by rfl) :
    PI X (.Tuple elts kk tpos) (.Call (.Name "zip" p) [e, e2] [] pos) (iZipB X.K ta) := by
  refine ⟨fun pins s σ H R I h => ?_⟩
  refine Call_ (ld_blt I hg hm PyProof.Rows.boot_zip (PyProof.Rows.callWith_type1 (thn (ha.run pos pins s σ H _ I h) fun us s1 ⟨vs, H1, I1, r1, q1⟩ => ?_) hs hpl))
  obtain ⟨a, b, xs, ys, ex, q1⟩ := q1
  subst ex
  cases r1 with
  | cons r rr =>
    cases rr with
    | cons r' rr =>
      cases rr
      cases r
      cases r'
      have fresh5 : ∀ c, c ∈ [s1.heap.objs.size + 4, s1.heap.objs.size + 2, s1.heap.objs.size + 3, s1.heap.objs.size, s1.heap.objs.size + 1] → FpOk X pins H1 c := fun c hcm => by
        have e' : c = s1.heap.objs.size + 4 ∨ c = s1.heap.objs.size + 2 ∨ c = s1.heap.objs.size + 3 ∨ c = s1.heap.objs.size ∨ c = s1.heap.objs.size + 1 := by simpa using hcm
        have hle : s1.heap.objs.size ≤ c := by
          rcases e' with z | z | z | z | z
          · rw [z]; exact Nat.le_add_right _ _
          · rw [z]; exact Nat.le_add_right _ _
          · rw [z]; exact Nat.le_add_right _ _
          · rw [z]; exact Nat.le_refl _
          · rw [z]; exact Nat.le_add_right _ _
        exact I1.fpOk hle (I1.hok.fresh hle)
      rcases q1 with ⟨hqx, hqy, q⟩ | ⟨hqx, hqy, q⟩ | ⟨hqx, hqy, q⟩
      · obtain ⟨its, rv, p1, _⟩ := I1.list hqx
        obtain ⟨its2, rv2, p2, _⟩ := I1.list hqy
        refine call_zip_2 p1.isList p2.isList fun h' hz hTI hTO h1 h2 hsz hk => wpAny_pyIter_zip hz ?_
        have I2 : Inv X pins σ H1 { s1 with heap := h' } := I1.kept (t' := s1.toks) hk
        exact ⟨s1.heap.objs.size + 4, [s1.heap.objs.size + 4, s1.heap.objs.size + 2, s1.heap.objs.size + 3, s1.heap.objs.size, s1.heap.objs.size + 1], _, _, H1, rfl, I2, turn_zip (PySem.W.ktu_apart s1.heap.objs.size a b p1.lt p2.lt), ⟨hz, hTI, ⟨_, _, hTO⟩, h1, h2⟩, fresh5, q⟩
      · obtain ⟨its, rv, p1, _⟩ := I1.tuple hqx
        obtain ⟨its2, rv2, p2, _⟩ := I1.tuple hqy
        obtain ⟨o1, ho1, _⟩ := id p1
        obtain ⟨o2, ho2, _⟩ := id p2
        refine call_zipT (show s1.heap.IsTuple a its.toArray from p1) (show s1.heap.IsTuple b its2.toArray from p2) fun h' hz hTI hTO h1 h2 hsz hk => wpAny_pyIter_zip hz ?_
        have I2 : Inv X pins σ H1 { s1 with heap := h' } := I1.kept (t' := s1.toks) hk
        exact ⟨s1.heap.objs.size + 4, [s1.heap.objs.size + 4, s1.heap.objs.size + 2, s1.heap.objs.size + 3, s1.heap.objs.size, s1.heap.objs.size + 1], _, _, H1, rfl, I2, turn_zipT (PySem.W.ktu_apart s1.heap.objs.size a b (Heap.lt_size ho1) (Heap.lt_size ho2)), ⟨hz, hTI, ⟨_, _, hTO⟩, h1, h2⟩, fresh5, q⟩
      · obtain ⟨its, rv, p1, _⟩ := I1.list hqx
        obtain ⟨its2, rv2, p2, _⟩ := I1.tuple hqy
        obtain ⟨o2, ho2, _⟩ := id p2
        refine call_zipM p1.isList (show s1.heap.IsTuple b its2.toArray from p2) fun h' hz hTI hTO h1 h2 hsz hk => wpAny_pyIter_zip hz ?_
        have I2 : Inv X pins σ H1 { s1 with heap := h' } := I1.kept (t' := s1.toks) hk
        exact ⟨s1.heap.objs.size + 4, [s1.heap.objs.size + 4, s1.heap.objs.size + 2, s1.heap.objs.size + 3, s1.heap.objs.size, s1.heap.objs.size + 1], _, _, H1, rfl, I2, turn_zipM (PySem.W.ktu_apart s1.heap.objs.size a b p1.lt (Heap.lt_size ho2)), ⟨hz, hTI, ⟨_, _, hTO⟩, h1, h2⟩, fresh5, q⟩

end L2
end
section
set_option Elab.async false
set_option linter.all false
set_option maxRecDepth 100000
set_option maxHeartbeats 4000000
/-! enumerate of a tuple -/
namespace REM
open PySem
open PySem.Sem (wp)
theorem meets_enumT (l : Addr) (items : Array Value) :
    Meets (Builtin.«enumerate.__new__» ⟨[.type "enumerate", .ref l], []⟩) (fun _ R s => s.heap.IsTuple l items ∧
      R (.ok (.ret (.ref (s.heap.push { cls := .type "tuple_iterator", data := .fields #[.ref l, .int 0 0] }).objs.size)))
        { s with heap := (s.heap.push { cls := .type "tuple_iterator", data := .fields #[.ref l, .int 0 0] }).push { cls := .type "enumerate", data := .fields #[.none, .bool false, .ref s.heap.objs.size, rawInt 0, .none, .none] } }) :=
  .of_wp fun prog w A R s h => by
    obtain ⟨hp, g, d, tk, os⟩ := s; obtain ⟨hl, h⟩ := h
    have hsub := sub_enumerate
    have hL : Heap.IsTuple (Shared.heap ⟨hp, g, d, tk, os⟩) l items := hl
    wp_walk using wpAny_pyIter_tuple hL
    refine wpAny_stack_any fun st => wpAny_pure ?_
    split
    · rename_i c _ _ _ _ _
      cases (c == Value.type "enumerate")
      · wp_walk using wpAny_pyIter_tuple hL
        exact ⟨_, rfl, h⟩
      · wp_walk using wpAny_pyIter_tuple hL
        exact ⟨_, rfl, h⟩
    · wp_walk using wpAny_pyIter_tuple hL
      exact ⟨_, rfl, h⟩
section
variable {prog : Program} {w : World} {A : Around} {E : Value → Shared → Prop} {s : Shared}
theorem call_enumT {l : Addr} {items : Array Value} {Q : Value → Shared → Prop} (hL : s.heap.IsTuple l items)
    (h : ∀ h', IsEnum h' (s.heap.objs.size + 1) s.heap.objs.size 0 .none → h'.IsTupleIter s.heap.objs.size l 0 → h'.objs.size = s.heap.objs.size + 2 →
      (∀ b o, s.heap.get? b = some o → h'.get? b = some o) → Q (.ref (s.heap.objs.size + 1)) { s with heap := h' }) :
    wpAny (model prog w) A (call (.type "enumerate") [.ref l]) Q E s := by
  refine callType_new F.called_enumerate (by decide) (F.typeCall_enumerate_1 _) (F.newCall_enumerate_1 _) (fun obj => F.args_object_init_2 obj _) F.entry_enumerate_new (meets_enumT l items) ⟨hL, ?_⟩
  have hz : (s.heap.push { cls := .type "tuple_iterator", data := .fields #[.ref l, .int 0 0] }).objs.size = s.heap.objs.size + 1 := Heap.size_push ..
  show _ ∧ _
  rw [hz]
  have he : IsEnum ((s.heap.push { cls := .type "tuple_iterator", data := .fields #[.ref l, .int 0 0] }).push { cls := .type "enumerate", data := .fields #[.none, .bool false, .ref s.heap.objs.size, rawInt 0, .none, .none] }) (s.heap.objs.size + 1) s.heap.objs.size 0 .none := by
    have := Heap.get?_push_size (s.heap.push { cls := .type "tuple_iterator", data := .fields #[.ref l, .int 0 0] }) (o := { cls := .type "enumerate", data := .fields #[.none, .bool false, .ref s.heap.objs.size, rawInt 0, .none, .none] }) rfl
    rw [hz] at this; exact this
  exact ⟨⟨_, he, rfl⟩, h _ he ⟨_, Heap.get?_push_of_some _ (Heap.get?_push_size _ rfl), rfl, rfl⟩ (by rw [Heap.size_push, hz]) fun b o x => Heap.get?_push_of_some _ (Heap.get?_push_of_some _ x)⟩
end
end REM
namespace L2
open PySem PySem.Spec PyProof.Rows REM
/-- the tuple at a as it stands at each turn, each item in a new pair -/
def IteT (K : PySem.W.Frag) (a : Addr) : It :=
  ⟨fun i H => ∃ (xs : List V) (x : V), SqT K H a xs ∧ xs[i]? = some x, fun i H v H' => ∃ T x, v = .ref T ∧ H T = none ∧ H' = upd H T (.tup [.int (i : Nat), x]) ∧ ∀ xs, SqT K H a xs → xs[i]? = some x, fun i H => ∃ xs : List V, SqT K H a xs ∧ xs.length ≤ i⟩
theorem turn_enumT {P : Program} {w : World} {K : PySem.W.Frag} {elts : List Expr} {kk : Nat} {tpos : Pos} (a e it : Addr) :
    Turn P w K (.Tuple elts kk tpos) (IteT K a) [e, it] e (fun i h => (∃ old, IsEnum h e it ((i : Nat) : Int) old) ∧ h.IsTupleIter it a i ∧ e ≠ it ∧ e ≠ a ∧ a ≠ it) where
  mem := by simp
  obj := fun i h st b hb => by
    obtain ⟨⟨old, he⟩, ⟨o, ho, hc, hd⟩, _⟩ := st
    have e' : b = e ∨ b = it := by simpa using hb
    rcases e' with z | z
    · rw [z]; exact ⟨_, he, fun v q => nomatch q⟩
    · rw [z]; exact ⟨o, ho, fun v q => by rw [hd] at q; cases q⟩
  keep := fun i h h' st k => let ⟨⟨old, he⟩, hi, hne⟩ := st; ⟨⟨old, k e (by simp) _ he⟩, hi.at fun o q => k it (by simp) o q, hne⟩
  item := by
    intro X hP hw hK hc i pins s σ H E I hf st hg
    subst hP hw hK
    obtain ⟨⟨old, he⟩, hit, hne, hna, hai⟩ := st
    obtain ⟨xs, x, hq, hx⟩ := hg
    obtain ⟨its, rv, p, hz⟩ := I.tuple hq
    obtain ⟨u, hu, ru⟩ := rv.get hx
    have hel : e < s.heap.objs.size := Heap.lt_size he
    have hlt : i < its.toArray.size := by
      have := (List.getElem?_eq_some_iff.mp hu).1
      simpa using this
    have hef : e ∉ [it, a] := by simp [hne, hna]
    refine wpAny_pyNext_enum_itemD (Draws.tuple (A := X.A.in1) (show X.A.in1.handled = none from I.ok.hd hc) it a hai its.toArray) he ⟨hit, p⟩ hlt hne hef fun v h' tk hv ho hst hT hsz hk => ?_
    have ev : v = u := by
      have e1 : its.toArray[i]? = some u := by simpa using hu
      rw [e1] at hv
      exact (Option.some.inj hv).symm
    subst ev
    refine ⟨_, rfl, wpAny_letOwnedTupleGo_enum (s := { s with heap := h', toks := tk + 1 }) ho fun h'' he' sb => ?_⟩
    have hT2 : h''.get? s.heap.objs.size = some { cls := .type "tuple", data := .seq #[.int i tk, v] } := (sb.2 _ (Nat.ne_of_gt hel)).trans hT
    have new : ObjOk X.prog X.w (upd H s.heap.objs.size (.tup [.int (i : Nat), x])) h'' s.heap.objs.size (.tup [.int (i : Nat), x]) :=
      ⟨by show 2 ≤ sizeLine; decide, [.int i tk, v], .cons ⟨_, rfl⟩ (.cons ru .nil), ⟨_, hT2, rfl, _, rfl⟩⟩
    have I1 : Inv X pins σ (upd H s.heap.objs.size (.tup [.int (i : Nat), x])) { s with heap := h'', toks := tk + 1 } :=
      I.turnedNew (ch := [e, it]) (fun b ob hb q => (sb.2 b (fun z => hb (by simp [z]))).trans (hk b ob (fun z => hb (by simp [z])) (fun z => hb (by simp [z])) q)) hf (Nat.le_refl _) new
    refine ⟨.ref s.heap.objs.size, _, I1, rfl, ⟨_, x, rfl, I.hok.fresh (Nat.le_refl _), rfl, fun ys hy => by rw [I.tuple_inj hy hq]; exact hx⟩, ⟨⟨v, ?_⟩, hst.1.at fun o q => (sb.2 it (Ne.symm hne)).trans q, hne, hna, hai⟩, fun b hb => ?_⟩
    · have e1 : ((i + 1 : Nat) : Int) = (i : Int) + 1 := by omega
      rw [e1]; exact he'
    · have hil : it < s.heap.objs.size := by obtain ⟨_, q, _⟩ := hit; exact Heap.lt_size q
      have hb' : b < s.heap.objs.size := by
        have e' : b = e ∨ b = it := by simpa using hb
        rcases e' with z | z
        · rw [z]; exact hel
        · rw [z]; exact hil
      rw [upd_ne (Nat.ne_of_lt hb')]
      exact (hf b hb).1
  done := by
    intro X hP hw hK hc i pins s σ H E I hf st hg
    subst hP hw hK
    obtain ⟨⟨old, he⟩, hit, hne, hna, hai⟩ := st
    obtain ⟨xs, hq, hx⟩ := hg
    obtain ⟨its, rv, p, hz⟩ := I.tuple hq
    obtain ⟨f0, f1, f2, f3, f4, f5⟩ := hf it (by simp)
    have hl := rv.length
    have hx' : its.toArray[i]? = none := by simp; omega
    have D : Draws X.prog X.w X.A.in1 it [it, a] i (fun _ _ => True) (fun j h => j = i ∧ h.IsTupleIter it a i ∧ h.IsTuple a its.toArray) := {
      live := fun _ _ st => let ⟨o, ho, _⟩ := st.2.1; ⟨o, ho⟩
      frame := fun _ _ _ st hk => ⟨st.1, st.2.1.at fun o q => hk it (by simp) o q, st.2.2.at fun o q => hk a (by simp) o q⟩
      item := fun j s Q E hj st _ => absurd st.1 (Nat.ne_of_lt hj)
      done := fun s Q E st hE => wpAny_nextOf_tuple_end (show X.A.in1.handled = none from I.ok.hd hc) st.2.1 st.2.2 hx' hE }
    exact wpAny_pyNext_enum_endD D he ⟨rfl, hit, p⟩ fun h' eb => ⟨rfl, I.turned (t' := s.toks) (fun b o hb q => eb b o hb q) f0 f1 f3 f4 f5⟩
  self := fun A i s Q E st h => let ⟨⟨_, he⟩, _⟩ := st; wpAny_pyIter_enum he h
/-- enumerate(x), of a list or a tuple -/
def iEnumB (K : PySem.W.Frag) (ta : TA) : TI := fun σ H R => ta σ H fun vs H1 => ∃ a xs, vs = [.ref a] ∧ ((SqL K H1 a xs ∧ R (Ite K a) H1) ∨ (SqT K H1 a xs ∧ R (IteT K a) H1))
theorem pi_enumB {X : Cx} {e : Expr} {ta : TA} {p pos tpos : Pos} {elts : List Expr} {kk : Nat} (hg : Gl X "enumerate") (hm : X.mg "enumerate" = none) (ha : PA X [e] ta) (hs : starEach [e] X.env = [(false, eval e X.env)] := by rfl) :
    PI X (.Tuple elts kk tpos) (.Call (.Name "enumerate" p) [e] [] pos) (iEnumB X.K ta) := by
  refine ⟨fun pins s σ H R I h => ?_⟩
  refine Call_ (ld_blt I hg hm boot_enumerate (PyProof.Rows.callWith_type1 (thn (ha.run pos pins s σ H _ I h) fun us s1 ⟨vs, H1, I1, r1, q1⟩ => ?_) hs rfl))
  obtain ⟨a, xs, ex, q1⟩ := q1
  subst ex
  cases r1 with
  | cons r rr =>
    cases rr
    cases r
    have fp2 : ∀ b ∈ [s1.heap.objs.size + 1, s1.heap.objs.size], FpOk X pins H1 b := fun b hb => by
      have e' : b = s1.heap.objs.size + 1 ∨ b = s1.heap.objs.size := by simpa using hb
      have hle : s1.heap.objs.size ≤ b := by
        rcases e' with z | z
        · rw [z]; exact Nat.le_add_right _ _
        · rw [z]; exact Nat.le_refl _
      exact I1.fpOk hle (I1.hok.fresh hle)
    rcases q1 with ⟨hq, q⟩ | ⟨hq, q⟩
    · obtain ⟨its, rv, p', hz⟩ := I1.list hq
      refine call_enumerate_list p'.isList fun h' he hit hsz hk => wpAny_pyIter_enum he ?_
      have I2 : Inv X pins σ H1 { s1 with heap := h' } := I1.kept (t' := s1.toks) hk
      exact ⟨s1.heap.objs.size + 1, [s1.heap.objs.size + 1, s1.heap.objs.size], _, _, H1, rfl, I2, turn_enum a (s1.heap.objs.size + 1) s1.heap.objs.size, ⟨⟨.none, he⟩, hit, Nat.succ_ne_self _⟩, fp2, q⟩
    · obtain ⟨its, rv, p', hz⟩ := I1.tuple hq
      have hal : a < s1.heap.objs.size := by obtain ⟨_, q, _⟩ := id p'; exact Heap.lt_size q
      refine call_enumT (show s1.heap.IsTuple a its.toArray from p') fun h' he hit hsz hk => wpAny_pyIter_enum he ?_
      have I2 : Inv X pins σ H1 { s1 with heap := h' } := I1.kept (t' := s1.toks) hk
      exact ⟨s1.heap.objs.size + 1, [s1.heap.objs.size + 1, s1.heap.objs.size], _, _, H1, rfl, I2, turn_enumT a (s1.heap.objs.size + 1) s1.heap.objs.size, ⟨⟨.none, he⟩, hit, Nat.succ_ne_self _, Nat.ne_of_gt (Nat.lt_succ_of_lt hal), Nat.ne_of_lt hal⟩, fp2, q⟩
end L2
end
section
set_option Elab.async false
set_option linter.all false
set_option maxRecDepth 100000
set_option maxHeartbeats 4000000
/-! tuple * int: once, never, and of the empty tuple -/
namespace L2
open PySem PySem.Spec PyProof.Rows
theorem tuple_mulS (l : Addr) (items : Array Value) (n : Nat) (dd : Option Addr) (sl : Array (Option Value)) (x : Int) (u : Tok) (c0 : (decide (x < -(2 ^ 63)) || decide (x ≥ 2 ^ 63)) = false) (c1 : (items.isEmpty || x == 1) = true) :
    Meets (Builtin.«tuple.__mul__» ⟨[.ref l, .int x u], []⟩) (fun _ R s => s.heap.get? l = some { cls := .type "tuple", dict := dd, data := .seq items n, slots := sl } ∧ R (.ok (.ret (Value.ref l))) s) :=
  .of_wp fun prog w A R s h => by
    obtain ⟨hp, g, d, tk, os⟩ := s
    obtain ⟨hl, h⟩ := h
    have f1 := AutoSeq1.idx_int
    wp_walk using wpAny_loadPart' hl
    repeat (first
      | (refine wpAny_ite_false (decide_eq_false (by rw [c0]; exact Bool.false_ne_true)) ?_; wp_walk using wpAny_loadPart' hl)
      | (refine wpAny_ite_true (decide_eq_true c1) ?_; wp_walk using wpAny_loadPart' hl))
    exact ⟨_, rfl, h⟩
theorem tuple_mul0 (l : Addr) (items : Array Value) (n : Nat) (dd : Option Addr) (sl : Array (Option Value)) (x : Int) (u : Tok) (c0 : (decide (x < -(2 ^ 63)) || decide (x ≥ 2 ^ 63)) = false) (c1 : (items.isEmpty || x == 1) = false) (c2 : (decide (x ≤ 0) || items.isEmpty) = true) :
    Meets (Builtin.«tuple.__mul__» ⟨[.ref l, .int x u], []⟩) (fun _ R s => s.heap.get? l = some { cls := .type "tuple", dict := dd, data := .seq items n, slots := sl } ∧
      R (.ok (.ret (Value.ref s.heap.objs.size))) { s with heap := s.heap.push { cls := Value.type "tuple", data := Data.seq #[] }, toks := s.toks }) :=
  .of_wp fun prog w A R s h => by
    obtain ⟨hp, g, d, tk, os⟩ := s
    obtain ⟨hl, h⟩ := h
    have f1 := AutoSeq1.idx_int
    wp_walk using wpAny_loadPart' hl
    repeat (first
      | (refine wpAny_ite_false (decide_eq_false (by rw [c0]; exact Bool.false_ne_true)) ?_; wp_walk using wpAny_loadPart' hl)
      | (refine wpAny_ite_false (decide_eq_false (by rw [c1]; exact Bool.false_ne_true)) ?_; wp_walk using wpAny_loadPart' hl)
      | (refine wpAny_ite_true (decide_eq_true c2) ?_; wp_walk using wpAny_loadPart' hl))
    exact ⟨_, rfl, h⟩
def rRep1 (K : PySem.W.Frag) : R2 := fun x y H Q => ∃ l k xs, x = .ref l ∧ y = .int k ∧ SqT K H l xs ∧ -1000000000 ≤ k ∧ k ≤ 1000000000 ∧
  (((k = 1 ∨ xs = []) ∧ Q (.ref l) H) ∨ (k ≤ 0 ∧ xs ≠ [] ∧ ∀ p, H p = none → Q (.ref p) (upd H p (.tup []))))
section
variable {X : Cx}
theorem op_rep1 : OpR X (binaryOp .Mult) (rRep1 X.K) := by
  intro pins s σ H x y v u Q I rx ry h
  obtain ⟨l, k, xs, rfl, rfl, hT, h1, h2, q⟩ := h
  cases rx
  obtain ⟨t, rfl⟩ := ry
  obtain ⟨its, r, ⟨⟨cls, dd, data, sl⟩, ho, hc, n, hd⟩, hs⟩ := I.tuple hT
  simp only at hc hd
  subst hc hd
  have hle : its.length = xs.length := r.length.symm
  have c0 : (decide (k < -(2 ^ 63)) || decide (k ≥ 2 ^ 63)) = false := by
    rw [decide_eq_false (by omega), decide_eq_false (by omega)] <;> rfl
  rcases q with ⟨hk, q⟩ | ⟨hk, hne, q⟩
  · have c1 : (its.toArray.isEmpty || k == 1) = true := by
      rcases hk with rfl | e
      · simp
      · have : its = [] := by
          rw [e] at hle
          exact List.eq_nil_of_length_eq_zero hle
        rw [this]
        rfl
    refine wpAny_binaryOp_repeat_ref (T := "tuple") (U := "int") (by decide) ⟨_, ho, rfl⟩ (fun s' => typeIs_int s' k t) noFill_tuple_mul F.fills_int_mul F.slot_int_rmul repeat_tuple F.slot_int_index.lookup
      (call_meets F.slot_int_rmul (typeIs_int s k t) F.entry_int_rmul (F.args_int_rmul_2 _ _) (int_rmul_tuple k t l its.toArray n dd sl)
        ⟨ho, rfl, ⟨_, ho, rfl⟩, call_meets F.slot_tuple_mul ⟨_, ho, rfl⟩ F.entry_tuple_mul (F.args_tuple_mul_2 _ _) (tuple_mulS l its.toArray n dd sl k t c0 c1) ⟨ho, ?_⟩⟩)
    exact ⟨.ref l, H, I, rfl, q⟩
  · have hn : its ≠ [] := fun e => hne (by
      rw [e] at hle
      exact List.eq_nil_of_length_eq_zero hle.symm)
    have hi : its.toArray.isEmpty = false := by
      cases its with
      | nil => exact absurd rfl hn
      | cons a b => rfl
    have c1 : (its.toArray.isEmpty || k == 1) = false := by
      rw [hi, Bool.false_or]
      exact beq_eq_false_iff_ne.mpr (by omega)
    have c2 : (decide (k ≤ 0) || its.toArray.isEmpty) = true := by
      rw [decide_eq_true hk]
      rfl
    refine wpAny_binaryOp_repeat_ref (T := "tuple") (U := "int") (by decide) ⟨_, ho, rfl⟩ (fun s' => typeIs_int s' k t) noFill_tuple_mul F.fills_int_mul F.slot_int_rmul repeat_tuple F.slot_int_index.lookup
      (call_meets F.slot_int_rmul (typeIs_int s k t) F.entry_int_rmul (F.args_int_rmul_2 _ _) (int_rmul_tuple k t l its.toArray n dd sl)
        ⟨ho, rfl, ⟨_, ho, rfl⟩, call_meets F.slot_tuple_mul ⟨_, ho, rfl⟩ F.entry_tuple_mul (F.args_tuple_mul_2 _ _) (tuple_mul0 l its.toArray n dd sl k t c0 c1 c2) ⟨ho, ?_⟩⟩)
    refine ⟨.ref s.heap.objs.size, _, I.laid (t' := s.toks) (o := .tup []) (fun b ob q => Heap.get?_push_of_some _ q) (Nat.le_refl _) ?_, rfl, q _ (I.hok.fresh (Nat.le_refl _))⟩
    exact ⟨by rw [sizeLine_eq]; simp, _, .nil, IsTup.new _ _⟩
end
end L2
end
section
set_option Elab.async false
set_option linter.all false
set_option maxRecDepth 100000
set_option maxHeartbeats 4000000
/-! sum of a tuple of ints -/
namespace HT
open PySem PyProof.Rows
section
variable {prog : Program} {w : World} {A : Around} {E : Value → Shared → Prop} {s : Shared} {l : Addr} {its : List Value} {ns : List Int} {Q : Value → Shared → Prop}
theorem sum_rawT (hh : A.handled = none) (hl : s.heap.IsTuple l its.toArray) (hi : IntsAre its ns)
    (h : ∀ h' tk t', (∀ b o, s.heap.get? b = some o → h'.get? b = some o) → Q (.int ns.sum t') { s with heap := h', toks := tk }) : wpAny (model prog w) A (call (.builtin "sum") [.ref l]) Q E s := by
  obtain ⟨xs, e⟩ := hi.allInts.items
  have hn : numsOf (intItems xs).toList = ns := by rw [← e]; exact hi.numsOf
  rw [nums_intItems] at hn
  rw [e] at hl
  refine PySem.W.ktm_sumG hh hl fun h' tk t' hk => ?_
  have := h h' tk t' hk
  rw [preSum_eq, List.take_of_length_le (by simp), hn]; exact this
end
end HT
namespace L2
open PySem PySem.Spec PyProof.Rows
def rSumT (K : PySem.W.Frag) : List V → Hp → VK → Prop := fun vs H Q => ∃ (a : Addr) (ns : List Int), vs = [V.ref a] ∧ SqT K H a (ns.map V.int) ∧ Q (.int ns.sum) H
theorem cr_sumT {X : Cx} (hc : X.calm = true) : CallR X (.builtin "sum") (rSumT X.K) := by
  intro pins s σ H vs us Q I r h
  obtain ⟨a, ns, rfl, hs, q⟩ := h
  obtain ⟨its, rv, hl, _⟩ := I.tuple hs
  rw [Vals.ref1 r]
  exact HT.sum_rawT (I.ok.hd hc) hl (intsAre_of rv) fun h' tk t' hk => ⟨.int _, H, I.kept hk, ⟨_, rfl⟩, q⟩
end L2
end
section
set_option Elab.async false
set_option linter.all false
set_option maxRecDepth 100000
set_option maxHeartbeats 4000000
namespace Pd
open PySem L2

/-- what stands at p may be written and is the data (its items stand in F) -/
inductive Own (c : Ct) (F H : Hp) (p : Addr) : D → Prop
  | lst {xs : List V} {ds : List D} : H p = some (.lst xs) → Reps c F ds xs → Own c F H p (.list ds)
  | dK {ws : List (Key × V)} {kvs : List (D × D)} : H p = some (.dK ws) → RepK c F kvs ws → Own c F H p (.dict ((.none, .bool false) :: kvs))
  | dT {ws : List (List Key × V)} {kvs : List (D × D)} : H p = some (.dT ws) → RepT c F kvs ws → Own c F H p (.dict ((.none, .bool true) :: kvs))
theorem Own.there {c : Ct} {F H : Hp} {p : Addr} {d : D} (h : Own c F H p d) : H p ≠ none := by
  cases h with
  | lst h _ => rw [h]; exact Option.some_ne_none _
  | dK h _ => rw [h]; exact Option.some_ne_none _
  | dT h _ => rw [h]; exact Option.some_ne_none _
theorem Own.ex {c : Ct} {F H F' H' : Hp} {p : Addr} {d : D} (h : Own c F H p d) (e : Ex F F') (k : H' p = H p) : Own c F' H' p d := by
  cases h with
  | lst h r => exact .lst (k.trans h) (r.ex e)
  | dK h r => exact .dK (k.trans h) (r.ex e)
  | dT h r => exact .dT (k.trans h) (r.ex e)
/-- frozen -/
theorem Own.froze {c : Ct} {F H : Hp} {p : Addr} {d : D} (h : Own c F H p d) (hp : F p = none) : ∃ o, H p = some o ∧ Rep c (upd F p o) d (.ref p) := by
  cases h with
  | lst h r => exact ⟨_, h, .lst upd_same (r.ex (Ex.new hp))⟩
  | dK h r => exact ⟨_, h, .dK (.inl upd_same) (r.ex (Ex.new hp))⟩
  | dT h r => exact ⟨_, h, .dT (.inl upd_same) (r.ex (Ex.new hp))⟩

/-- a slot of the frame: nothing known, a value, an object of one's own, an object that was handed in to be changed, the error that is handled (its class by name) -/
inductive Sl where
  | u | v (d : D) | o (d : D) | b (d : D) | e (n : String)
abbrev Env := List Sl
/-- the entry of a def -/
structure Bs where
  c : Ct
  H0 : Hp
  F0 : Hp
  io : Nat → Option Addr
  ec : String → Addr
  hx : Addr
  hn : String
/-- another entry -/
abbrev Bs.rb (B : Bs) (H0 F0 : Hp) : Bs := { B with H0 := H0, F0 := F0 }
def SlOk (B : Bs) (F H : Hp) (i : Nat) : Sl → Option V → Prop
  | .u, _ => True
  | .v d, x => ∃ v, x = some v ∧ Rep B.c F d v
  | .o d, x => ∃ p, x = some (.ref p) ∧ F p = none ∧ B.H0 p = none ∧ Own B.c F H p d
  | .b d, x => ∃ p, x = some (.ref p) ∧ F p = none ∧ B.io i = some p ∧ Own B.c F H p d
  | .e n, x => x = some (.ref B.hx) ∧ B.hn = n
/-- the slot's object may be written -/
def Sl.mine : Sl → Option D
  | .o d => some d
  | .b d => some d
  | _ => none
theorem SlOk.mine {B : Bs} {F H : Hp} {i : Nat} {s : Sl} {x : Option V} {d : D} (h : SlOk B F H i s x) (e : s.mine = some d) : ∃ p, x = some (.ref p) ∧ F p = none ∧ Own B.c F H p d := by
  cases s with
  | u => cases e
  | v d => cases e
  | o d' => cases e; obtain ⟨p, h1, h2, _, h3⟩ := h; exact ⟨p, h1, h2, h3⟩
  | b d' => cases e; obtain ⟨p, h1, h2, _, h3⟩ := h; exact ⟨p, h1, h2, h3⟩
  | e n => cases e
/-- the state -/
structure St (B : Bs) (F : Hp) (σ : L2.St) (H : Hp) (ρ : Env) : Prop where
  len : σ.length = ρ.length
  ex : Ex F H
  sl : ∀ (i : Nat) (s : Sl) (x : Option V), ρ[i]? = some s → σ[i]? = some x → SlOk B F H i s x
  sep : ∀ (i j : Nat) (s t : Sl) (p : Addr), ρ[i]? = some s → ρ[j]? = some t → s.mine ≠ none → t.mine ≠ none → σ[i]? = some (some (.ref p)) → σ[j]? = some (some (.ref p)) → i = j
  keep : ∀ q o, B.H0 q = some o → (∀ i, B.io i ≠ some q) → ¬ B.c.tb q → H q = some o
  low : Ex B.F0 F
  new : ∀ q, B.H0 q ≠ none → B.F0 q = none → F q = none
  dom : ∀ q, B.H0 q ≠ none → H q ≠ none
  iow : ∀ i q, B.io i = some q → B.H0 q ≠ none
  tab : TabOk B.c H
  tb0 : ∀ q, B.c.tb q → B.H0 q ≠ none
  tf : TfOk B.c F
section
variable {B : Bs} {F H F' H' : Hp} {σ : L2.St} {ρ : Env} {d : D} {x : V}
/-- the heap grows: nothing that stood is changed, what F had stays -/
structure Grow (F H F' H' : Hp) : Prop where
  f : Ex F F'
  h : ∀ q o, H q = some o → H' q = some o
  ex : Ex F' H'
  new : ∀ q, H q ≠ none → F q = none → F' q = none
theorem Grow.refl (e : Ex F H) : Grow F H F H := ⟨Ex.refl F, fun _ _ h => h, e, fun _ _ h => h⟩
theorem Grow.trans {F1 H1 F2 H2 : Hp} (a : Grow F H F1 H1) (b : Grow F1 H1 F2 H2) : Grow F H F2 H2 where
  f := a.f.trans b.f
  h := fun q o e => b.h q o (a.h q o e)
  ex := b.ex
  new := fun q e1 e2 => b.new q (by
    cases e : H q with
    | none => exact absurd e e1
    | some o => rw [a.h q o e]; exact Option.some_ne_none _) (a.new q e1 e2)
/-- a new object that stays as it is -/
theorem Grow.obj {p : Addr} {o : HO} (e : Ex F H) (hp : H p = none) : Grow F H (upd F p o) (upd H p o) where
  f := Ex.new (e.free hp)
  h := fun q u h => by rw [upd_ne (ne_of_none h hp)]; exact h
  ex := e.both
  new := fun q h1 h2 => by
    have hne : q ≠ p := fun z => h1 (by rw [z]; exact hp)
    rw [upd_ne hne]; exact h2
/-- a new object that may be written -/
theorem Grow.own {p : Addr} {o : HO} (e : Ex F H) (hp : H p = none) : Grow F H F (upd H p o) where
  f := Ex.refl F
  h := fun q u h => by rw [upd_ne (ne_of_none h hp)]; exact h
  ex := e.put (e.free hp)
  new := fun q h1 h2 => h2
theorem Own.grow {p : Addr} (h : Own B.c F H p d) (g : Grow F H F' H') : Own B.c F' H' p d := by
  cases h with
  | lst h r => exact .lst (g.h _ _ h) (r.ex g.f)
  | dK h r => exact .dK (g.h _ _ h) (r.ex g.f)
  | dT h r => exact .dT (g.h _ _ h) (r.ex g.f)
theorem SlOk.grow {i : Nat} {s : Sl} {x : Option V} (h : SlOk B F H i s x) (g : Grow F H F' H') : SlOk B F' H' i s x := by
  cases s with
  | u => trivial
  | v d => obtain ⟨v, h1, h2⟩ := h; exact ⟨v, h1, h2.ex g.f⟩
  | o d => obtain ⟨p, h1, h2, h3, h4⟩ := h; exact ⟨p, h1, g.new p h4.there h2, h3, h4.grow g⟩
  | b d => obtain ⟨p, h1, h2, h3, h4⟩ := h; exact ⟨p, h1, g.new p h4.there h2, h3, h4.grow g⟩
  | e n => exact h
theorem Grow.dom (g : Grow F H F' H') {q : Addr} (h : H q ≠ none) : H' q ≠ none := by
  cases e : H q with
  | none => exact absurd e h
  | some o => rw [g.h q o e]; exact Option.some_ne_none _
theorem St.grow (S : St B F σ H ρ) (g : Grow F H F' H') : St B F' σ H' ρ where
  len := S.len
  ex := g.ex
  sl := fun i s x h1 h2 => (S.sl i s x h1 h2).grow g
  sep := S.sep
  keep := fun q o h1 h2 h3 => g.h q o (S.keep q o h1 h2 h3)
  low := S.low.trans g.f
  new := fun q h1 h2 => g.new q (S.dom q h1) (S.new q h1 h2)
  dom := fun q h => g.dom (S.dom q h)
  iow := S.iow
  tab := S.tab.keep fun q o _ e => g.h q o e
  tb0 := S.tb0
  tf := fun q z => g.new q (S.tab.dom z) (S.tf q z)
theorem Own.notbl {c : Ct} {F H : Hp} {p : Addr} {d : D} (h : Own c F H p d) (t : TabOk c H) : ¬ c.tb p := by
  cases h with
  | lst h r => exact t.ne h fun _ z => by cases z
  | dK h r => exact t.ne h fun _ z => by cases z
  | dT h r => exact t.ne h fun _ z => by cases z
/-- the heap grows, and its tables -/
theorem St.growT (S : St B F σ H ρ) (gf : Ex F F') (gh : ∀ q o, H q = some o → ¬ B.c.tb q → H' q = some o) (gex : Ex F' H') (gnew : ∀ q, H q ≠ none → F q = none → F' q = none) (gdom : ∀ q, H q ≠ none → H' q ≠ none) (gt : TabOk B.c H') : St B F' σ H' ρ where
  len := S.len
  ex := gex
  sl := fun i s x h1 h2 => by
    have q := S.sl i s x h1 h2
    cases s with
    | u => exact True.intro
    | v d => obtain ⟨v, e1, e2⟩ := q; exact ⟨v, e1, e2.ex gf⟩
    | o d =>
      obtain ⟨p, e1, e2, e3, e4⟩ := q
      refine ⟨p, e1, gnew p e4.there e2, e3, e4.ex gf ?_⟩
      cases e : H p with
      | none => exact absurd e e4.there
      | some o => exact gh p o e (e4.notbl S.tab)
    | b d =>
      obtain ⟨p, e1, e2, e3, e4⟩ := q
      refine ⟨p, e1, gnew p e4.there e2, e3, e4.ex gf ?_⟩
      cases e : H p with
      | none => exact absurd e e4.there
      | some o => exact gh p o e (e4.notbl S.tab)
    | e n => exact q
  sep := S.sep
  keep := fun q o h1 h2 h3 => gh q o (S.keep q o h1 h2 h3) h3
  low := S.low.trans gf
  new := fun q h1 h2 => gnew q (S.dom q h1) (S.new q h1 h2)
  dom := fun q h => gdom q (S.dom q h)
  iow := S.iow
  tab := gt
  tb0 := S.tb0
  tf := fun q z => gnew q (S.tab.dom z) (S.tf q z)
theorem St.fresh (S : St B F σ H ρ) {p : Addr} (h : H p = none) : B.H0 p = none := by
  cases e : B.H0 p with
  | none => rfl
  | some o => exact absurd h (S.dom p (by rw [e]; exact Option.some_ne_none _))
/-- an own object at p becomes a value: nothing else is lost -/
theorem St.freezeAt (S : St B F σ H ρ) {p : Addr} {o : HO} (hp : F p = none) (h0 : B.H0 p = none) (ho : H p = some o) (hs : ∀ (i : Nat) (s : Sl), ρ[i]? = some s → s.mine ≠ none → σ[i]? ≠ some (some (.ref p))) : St B (upd F p o) σ H ρ where
  len := S.len
  ex := S.ex.take ho
  sl := fun i s x h1 h2 => by
    have q := S.sl i s x h1 h2
    cases s with
    | u => trivial
    | v d => obtain ⟨v, e1, e2⟩ := q; exact ⟨v, e1, e2.ex (Ex.new hp)⟩
    | o d =>
      obtain ⟨a, e1, e2, e3, e4⟩ := q
      subst e1
      have hne : a ≠ p := fun z => hs i _ h1 (by intro z; cases z) (by rw [h2, z])
      exact ⟨a, rfl, by rw [upd_ne hne]; exact e2, e3, e4.ex (Ex.new hp) rfl⟩
    | b d =>
      obtain ⟨a, e1, e2, e3, e4⟩ := q
      subst e1
      have hne : a ≠ p := fun z => hs i _ h1 (by intro z; cases z) (by rw [h2, z])
      exact ⟨a, rfl, by rw [upd_ne hne]; exact e2, e3, e4.ex (Ex.new hp) rfl⟩
    | e n => exact q
  sep := S.sep
  keep := S.keep
  low := S.low.trans (Ex.new hp)
  new := fun q h1 h2 => by
    have hne : q ≠ p := fun z => h1 (by rw [z]; exact h0)
    rw [upd_ne hne]; exact S.new q h1 h2
  dom := S.dom
  iow := S.iow
  tab := S.tab
  tb0 := S.tb0
  tf := fun q z => by
    have hne : q ≠ p := fun y => by rw [y] at z; exact S.tb0 p z h0
    rw [upd_ne hne]; exact S.tf q z
/-- a slot is forgotten or told otherwise -/
theorem St.setSl (S : St B F σ H ρ) (i : Nat) (s : Sl) (hs : s.mine = none) (h : ∀ x, σ[i]? = some x → SlOk B F H i s x) : St B F σ H (ρ.set i s) where
  len := by rw [List.length_set]; exact S.len
  ex := S.ex
  sl := fun j t x h1 h2 => by
    by_cases e : i = j
    · subst e
      have hl : i < ρ.length := by rw [← S.len]; exact (List.getElem?_eq_some_iff.mp h2).1
      rw [List.getElem?_set_self hl] at h1
      cases h1
      exact h x h2
    · rw [List.getElem?_set_ne e] at h1
      exact S.sl j t x h1 h2
  sep := fun j k t r p h1 h2 h3 h4 h5 h6 => by
    have out : ∀ (m : Nat) (t : Sl), (ρ.set i s)[m]? = some t → t.mine ≠ none → ρ[m]? = some t := fun m t e1 e2 => by
      by_cases e : i = m
      · subst e
        by_cases hl : i < ρ.length
        · rw [List.getElem?_set_self hl] at e1; cases e1; exact absurd hs e2
        · rw [List.getElem?_eq_none (by rw [List.length_set]; omega)] at e1; cases e1
      · rw [List.getElem?_set_ne e] at e1; exact e1
    exact S.sep j k t r p (out j t h1 h3) (out k r h2 h4) h3 h4 h5 h6
  keep := S.keep
  low := S.low
  new := S.new
  dom := S.dom
  iow := S.iow
  tab := S.tab
  tb0 := S.tb0
  tf := S.tf

/-- a result: a value, the object of a slot, a new object of one's own -/
inductive Res where
  | v (d : D) | s (i : Nat) | f (d : D)
def ResOk (B : Bs) (F : Hp) (σ : L2.St) (H : Hp) (ρ : Env) : Res → V → Prop
  | .v d, x => Rep B.c F d x
  | .s i, x => σ[i]? = some (some x)
  | .f d, x => ∃ p, x = .ref p ∧ F p = none ∧ B.H0 p = none ∧ Own B.c F H p d ∧ ∀ (i : Nat) (s : Sl), ρ[i]? = some s → s.mine ≠ none → σ[i]? ≠ some (some (.ref p))
/-- what a result is worth -/
def look (ρ : Env) : Res → Option D
  | .v d => some d
  | .s i => match ρ[i]? with
    | some (.o d) => some d
    | some (.b d) => some d
    | some (.v d) => some d
    | _ => none
  | .f d => some d
/-- a new own object's result is made a value -/
def Res.hold : Res → Res
  | .f d => .v d
  | r => r
theorem look_hold (ρ : Env) (r : Res) : look ρ r.hold = look ρ r := by cases r <;> rfl
theorem ResOk.hold (S : St B F σ H ρ) {r : Res} (h : ResOk B F σ H ρ r x) : ∃ F', Ex F F' ∧ St B F' σ H ρ ∧ ResOk B F' σ H ρ r.hold x := by
  cases r with
  | v d => exact ⟨F, Ex.refl F, S, h⟩
  | s i => exact ⟨F, Ex.refl F, S, h⟩
  | f d =>
    obtain ⟨p, rfl, hp, h0, ho, hs⟩ := h
    obtain ⟨o, e, r⟩ := ho.froze hp
    exact ⟨upd F p o, Ex.new hp, S.freezeAt hp h0 e hs, r⟩
/-- to be read: the outermost object may be one's own -/
inductive RdX (c : Ct) (F H : Hp) : D → V → Prop
  | rep {d : D} {x : V} : Rep c F d x → RdX c F H d x
  | own {d : D} {p : Addr} : Own c F H p d → RdX c F H d (.ref p)
theorem ResOk.rd (S : St B F σ H ρ) {r : Res} (h : ResOk B F σ H ρ r x) {d : D} (hl : look ρ r = some d) : RdX B.c F H d x := by
  cases r with
  | v d' => cases hl; exact .rep h
  | f d' => cases hl; obtain ⟨p, rfl, _, _, ho, _⟩ := h; exact .own ho
  | s i =>
    have h1 : σ[i]? = some (some x) := h
    cases h2 : ρ[i]? with
    | none => simp only [look, h2] at hl; cases hl
    | some s =>
      have q := S.sl i s _ h2 h1
      simp only [look, h2] at hl
      cases s with
      | u => cases hl
      | v _ => cases hl; obtain ⟨v, e1, e2⟩ := q; cases e1; exact .rep e2
      | o _ => cases hl; obtain ⟨p, e1, _, _, e4⟩ := q; cases e1; exact .own e4
      | b _ => cases hl; obtain ⟨p, e1, _, _, e4⟩ := q; cases e1; exact .own e4
      | e _ => cases hl
end
end Pd
end
section
set_option Elab.async false
set_option linter.all false
set_option maxRecDepth 100000
set_option maxHeartbeats 4000000
namespace Pd
open PySem L2

/-- what an expression comes to -/
inductive Out where
  | ok (r : Res) (ρ : Env) | ex (c : String) (ρ : Env) | bad
abbrev Ev := Env → Out
def Out.bd : Out → (Res → Env → Out) → Out
  | .ok r ρ, k => k r ρ
  | .ex c ρ, _ => .ex c ρ
  | .bad, _ => .bad
def OutOk (B : Bs) (W : WX) (F : Hp) (σ : L2.St) (Q : VK) : Out → Prop
  | .ok r ρ' => ∀ F' H' x, Ex F F' → St B F' σ H' ρ' → ResOk B F' σ H' ρ' r x → Q x H'
  | .ex c ρ' => ∀ F' H', Ex F F' → St B F' σ H' ρ' → W (.ref (B.ec c)) none σ H'
  | .bad => False
/-- a test -/
inductive OutT where
  | ok (b : Bool) (ρ : Env) | ex (c : String) (ρ : Env) | bad
abbrev EvT := Env → OutT
def OutT.bd : OutT → (Bool → Env → OutT) → OutT
  | .ok r ρ, k => k r ρ
  | .ex c ρ, _ => .ex c ρ
  | .bad, _ => .bad
def OutTOk (B : Bs) (W : WX) (F : Hp) (σ : L2.St) (Q : Bool → Hp → Prop) : OutT → Prop
  | .ok b ρ' => ∀ F' H', Ex F F' → St B F' σ H' ρ' → Q b H'
  | .ex c ρ' => ∀ F' H', Ex F F' → St B F' σ H' ρ' → W (.ref (B.ec c)) none σ H'
  | .bad => False
def Out.bdT : Out → (Res → Env → OutT) → OutT
  | .ok r ρ, k => k r ρ
  | .ex c ρ, _ => .ex c ρ
  | .bad, _ => .bad
def OutT.bdE : OutT → (Bool → Env → Out) → Out
  | .ok r ρ, k => k r ρ
  | .ex c ρ, _ => .ex c ρ
  | .bad, _ => .bad
/-- arguments -/
inductive OutA where
  | ok (r : List Res) (ρ : Env) | ex (c : String) (ρ : Env) | bad
abbrev EvA := Env → OutA
def OutA.bd : OutA → (List Res → Env → OutA) → OutA
  | .ok r ρ, k => k r ρ
  | .ex c ρ, _ => .ex c ρ
  | .bad, _ => .bad
def Out.bdA : Out → (Res → Env → OutA) → OutA
  | .ok r ρ, k => k r ρ
  | .ex c ρ, _ => .ex c ρ
  | .bad, _ => .bad
def OutA.bdE : OutA → (List Res → Env → Out) → Out
  | .ok r ρ, k => k r ρ
  | .ex c ρ, _ => .ex c ρ
  | .bad, _ => .bad
/-- several results, the vectors' values -/
inductive RessOk (B : Bs) (F : Hp) (σ : L2.St) (H : Hp) (ρ : Env) : List Res → List V → Prop
  | nil : RessOk B F σ H ρ [] []
  | cons {r : Res} {x : V} {rs : List Res} {xs : List V} : (∀ d, r ≠ .f d) → ResOk B F σ H ρ r x → RessOk B F σ H ρ rs xs → RessOk B F σ H ρ (r :: rs) (x :: xs)
def OutAOk (B : Bs) (W : WX) (F : Hp) (σ : L2.St) (Q : List V → Hp → Prop) : OutA → Prop
  | .ok rs ρ' => ∀ F' H' xs, Ex F F' → St B F' σ H' ρ' → RessOk B F' σ H' ρ' rs xs → Q xs H'
  | .ex c ρ' => ∀ F' H', Ex F F' → St B F' σ H' ρ' → W (.ref (B.ec c)) none σ H'
  | .bad => False

def tE (B : Bs) (W : WX) (e : Ev) : TE := fun σ H Q => ∃ F ρ, St B F σ H ρ ∧ OutOk B W F σ Q (e ρ)
def tT (B : Bs) (W : WX) (e : EvT) : TT := fun σ H Q => ∃ F ρ, St B F σ H ρ ∧ OutTOk B W F σ Q (e ρ)
def tA (B : Bs) (W : WX) (e : EvA) : TA := fun σ H Q => ∃ F ρ, St B F σ H ρ ∧ OutAOk B W F σ Q (e ρ)
abbrev PED (X : Cx) (B : Bs) (W : WX) (x : Expr) (e : Ev) : Prop := PE X x (tE B W e)
abbrev PTD (X : Cx) (B : Bs) (W : WX) (x : Expr) (e : EvT) : Prop := PT X x (tT B W e)
abbrev PWD (X : Cx) (B : Bs) (W : WX) (x : Expr) (e : EvT) : Prop := PW X x (tT B W e)
abbrev PAD (X : Cx) (B : Bs) (W : WX) (xs : List Expr) (e : EvA) : Prop := PA X xs (tA B W e)

theorem pe_wk {X : Cx} {e : Expr} {t t' : TE} (h : PE X e t) (k : ∀ σ H Q, t' σ H Q → t σ H Q) : PE X e t' := ⟨fun pins s σ H Q I q => h.run pins s σ H Q I (k σ H Q q)⟩
theorem pt_wk {X : Cx} {e : Expr} {t t' : TT} (h : PT X e t) (k : ∀ σ H Q, t' σ H Q → t σ H Q) : PT X e t' := ⟨fun pins s σ H Q I q => h.run pins s σ H Q I (k σ H Q q)⟩
theorem pw_wk {X : Cx} {e : Expr} {t t' : TT} (h : PW X e t) (k : ∀ σ H Q, t' σ H Q → t σ H Q) : PW X e t' := ⟨fun wh pins s σ H Q I q => h.run wh pins s σ H Q I (k σ H Q q)⟩
theorem pa_wk {X : Cx} {e : List Expr} {t t' : TA} (h : PA X e t) (k : ∀ σ H Q, t' σ H Q → t σ H Q) : PA X e t' := ⟨fun pos pins s σ H Q I q => h.run pos pins s σ H Q I (k σ H Q q)⟩
section
variable {B : Bs} {W : WX} {F F1 H : Hp} {σ : L2.St} {ρ : Env} {Q : VK}
theorem OutOk.mono {o : Out} (e : Ex F F1) (h : OutOk B W F σ Q o) : OutOk B W F1 σ Q o := by
  cases o with
  | ok r ρ' => exact fun F' H' x e' => h F' H' x (e.trans e')
  | ex c ρ' => exact fun F' H' e' => h F' H' (e.trans e')
  | bad => exact h
theorem OutTOk.mono {o : OutT} {Q : Bool → Hp → Prop} (e : Ex F F1) (h : OutTOk B W F σ Q o) : OutTOk B W F1 σ Q o := by
  cases o with
  | ok r ρ' => exact fun F' H' e' => h F' H' (e.trans e')
  | ex c ρ' => exact fun F' H' e' => h F' H' (e.trans e')
  | bad => exact h
theorem OutAOk.mono {o : OutA} {Q : List V → Hp → Prop} (e : Ex F F1) (h : OutAOk B W F σ Q o) : OutAOk B W F1 σ Q o := by
  cases o with
  | ok r ρ' => exact fun F' H' x e' => h F' H' x (e.trans e')
  | ex c ρ' => exact fun F' H' e' => h F' H' (e.trans e')
  | bad => exact h
theorem bd_ok {a : Ev} {k : Res → Env → Out} {R : VK} (S : St B F σ H ρ) (h : OutOk B W F σ Q ((a ρ).bd k))
    (step : ∀ r ρ1 F1 H1 x, Ex F F1 → St B F1 σ H1 ρ1 → ResOk B F1 σ H1 ρ1 r x → OutOk B W F1 σ Q (k r ρ1) → R x H1) : tE B W a σ H R := by
  refine ⟨F, ρ, S, ?_⟩
  cases e : a ρ with
  | ok r ρ1 => rw [e] at h; exact fun F1 H1 x e1 S1 R1 => step r ρ1 F1 H1 x e1 S1 R1 (OutOk.mono e1 h)
  | ex c ρ1 => rw [e] at h; exact h
  | bad => rw [e] at h; exact h
theorem bdT_ok {a : Ev} {k : Res → Env → OutT} {R : VK} {Q : Bool → Hp → Prop} (S : St B F σ H ρ) (h : OutTOk B W F σ Q ((a ρ).bdT k))
    (step : ∀ r ρ1 F1 H1 x, Ex F F1 → St B F1 σ H1 ρ1 → ResOk B F1 σ H1 ρ1 r x → OutTOk B W F1 σ Q (k r ρ1) → R x H1) : tE B W a σ H R := by
  refine ⟨F, ρ, S, ?_⟩
  cases e : a ρ with
  | ok r ρ1 => rw [e] at h; exact fun F1 H1 x e1 S1 R1 => step r ρ1 F1 H1 x e1 S1 R1 (OutTOk.mono e1 h)
  | ex c ρ1 => rw [e] at h; exact h
  | bad => rw [e] at h; exact h
theorem bdA_ok {a : Ev} {k : Res → Env → OutA} {R : VK} {Q : List V → Hp → Prop} (S : St B F σ H ρ) (h : OutAOk B W F σ Q ((a ρ).bdA k))
    (step : ∀ r ρ1 F1 H1 x, Ex F F1 → St B F1 σ H1 ρ1 → ResOk B F1 σ H1 ρ1 r x → OutAOk B W F1 σ Q (k r ρ1) → R x H1) : tE B W a σ H R := by
  refine ⟨F, ρ, S, ?_⟩
  cases e : a ρ with
  | ok r ρ1 => rw [e] at h; exact fun F1 H1 x e1 S1 R1 => step r ρ1 F1 H1 x e1 S1 R1 (OutAOk.mono e1 h)
  | ex c ρ1 => rw [e] at h; exact h
  | bad => rw [e] at h; exact h
theorem tbd_ok {a : EvT} {k : Bool → Env → OutT} {R : Bool → Hp → Prop} {Q : Bool → Hp → Prop} (S : St B F σ H ρ) (h : OutTOk B W F σ Q ((a ρ).bd k))
    (step : ∀ r ρ1 F1 H1, Ex F F1 → St B F1 σ H1 ρ1 → OutTOk B W F1 σ Q (k r ρ1) → R r H1) : tT B W a σ H R := by
  refine ⟨F, ρ, S, ?_⟩
  cases e : a ρ with
  | ok r ρ1 => rw [e] at h; exact fun F1 H1 e1 S1 => step r ρ1 F1 H1 e1 S1 (OutTOk.mono e1 h)
  | ex c ρ1 => rw [e] at h; exact h
  | bad => rw [e] at h; exact h
theorem tbdE_ok {a : EvT} {k : Bool → Env → Out} {R : Bool → Hp → Prop} (S : St B F σ H ρ) (h : OutOk B W F σ Q ((a ρ).bdE k))
    (step : ∀ r ρ1 F1 H1, Ex F F1 → St B F1 σ H1 ρ1 → OutOk B W F1 σ Q (k r ρ1) → R r H1) : tT B W a σ H R := by
  refine ⟨F, ρ, S, ?_⟩
  cases e : a ρ with
  | ok r ρ1 => rw [e] at h; exact fun F1 H1 e1 S1 => step r ρ1 F1 H1 e1 S1 (OutOk.mono e1 h)
  | ex c ρ1 => rw [e] at h; exact h
  | bad => rw [e] at h; exact h
theorem abd_ok {a : EvA} {k : List Res → Env → Out} {R : List V → Hp → Prop} (S : St B F σ H ρ) (h : OutOk B W F σ Q ((a ρ).bdE k))
    (step : ∀ r ρ1 F1 H1 x, Ex F F1 → St B F1 σ H1 ρ1 → RessOk B F1 σ H1 ρ1 r x → OutOk B W F1 σ Q (k r ρ1) → R x H1) : tA B W a σ H R := by
  refine ⟨F, ρ, S, ?_⟩
  cases e : a ρ with
  | ok r ρ1 => rw [e] at h; exact fun F1 H1 x e1 S1 R1 => step r ρ1 F1 H1 x e1 S1 R1 (OutOk.mono e1 h)
  | ex c ρ1 => rw [e] at h; exact h
  | bad => rw [e] at h; exact h
theorem aabd_ok {a : EvA} {k : List Res → Env → OutA} {R : List V → Hp → Prop} {Q : List V → Hp → Prop} (S : St B F σ H ρ) (h : OutAOk B W F σ Q ((a ρ).bd k))
    (step : ∀ r ρ1 F1 H1 x, Ex F F1 → St B F1 σ H1 ρ1 → RessOk B F1 σ H1 ρ1 r x → OutAOk B W F1 σ Q (k r ρ1) → R x H1) : tA B W a σ H R := by
  refine ⟨F, ρ, S, ?_⟩
  cases e : a ρ with
  | ok r ρ1 => rw [e] at h; exact fun F1 H1 x e1 S1 R1 => step r ρ1 F1 H1 x e1 S1 R1 (OutAOk.mono e1 h)
  | ex c ρ1 => rw [e] at h; exact h
  | bad => rw [e] at h; exact h
theorem ResOk.move {F' H' : Hp} {ρ' : Env} {r : Res} {x : V} (h : ResOk B F σ H ρ r x) (hn : ∀ d, r ≠ .f d) (e : Ex F F') : ResOk B F' σ H' ρ' r x := by
  cases r with
  | v d => exact Rep.ex e h
  | s i => exact h
  | f d => exact absurd rfl (hn d)
theorem hold_ne {r : Res} : ∀ d, r.hold ≠ .f d := by cases r <;> intro d h <;> cases h
theorem RessOk.move {F' H' : Hp} {ρ' : Env} {r : List Res} {x : List V} (h : RessOk B F σ H ρ r x) (e : Ex F F') : RessOk B F' σ H' ρ' r x := by
  induction h with
  | nil => exact .nil
  | cons n h _ ih => exact .cons n (h.move n e) ih

/-- what an operation may hand on, from the heap H of which F stays -/
def NewOk (c : Ct) (F H : Hp) (Q : VK) : Res → Prop
  | .v d => ∀ F' H' z, Grow F H F' H' → Rep c F' d z → Q z H'
  | .f d => ∀ F' H' p, Grow F H F' H' → H p = none → F' p = none → Own c F' H' p d → Q (.ref p) H'
  | .s _ => False
theorem newOk {r : Res} (S : St B F σ H ρ) (h : OutOk B W F σ Q (.ok r ρ)) (hn : ∀ i, r ≠ .s i) : NewOk B.c F H Q r := by
  cases r with
  | v d => exact fun F' H' z g q => h F' H' z g.f (S.grow g) q
  | s i => exact absurd rfl (hn i)
  | f d =>
    refine fun F' H' p g hp hp' ho => h F' H' _ g.f (S.grow g) ⟨p, rfl, hp', S.fresh hp, ho, fun i s h1 h2 h3 => ?_⟩
    have q := S.sl i s _ h1 h3
    cases e : s.mine with
    | none => exact h2 e
    | some d' =>
      obtain ⟨a, e1, _, e3⟩ := q.mine e
      cases e1
      exact e3.there hp
/-- hand on a value that stands -/
theorem NewOk.here {c : Ct} {d : D} {z : V} (e : Ex F H) (h : NewOk c F H Q (.v d)) (r : Rep c F d z) : Q z H := h F H z (Grow.refl e) r
/-- a new list of one's own -/
theorem NewOk.lst {c : Ct} {ds : List D} {xs : List V} {p : Addr} (e : Ex F H) (h : NewOk c F H Q (.f (.list ds))) (r : Reps c F ds xs) (hp : H p = none) : Q (.ref p) (upd H p (.lst xs)) :=
  h F _ p (Grow.own e hp) hp (e.free hp) (.lst upd_same r)
/-- a new tuple -/
theorem NewOk.tup {c : Ct} {ds : List D} {xs : List V} {p : Addr} (e : Ex F H) (h : NewOk c F H Q (.v (.tuple ds))) (r : Reps c F ds xs) (hp : H p = none) : Q (.ref p) (upd H p (.tup xs)) :=
  h _ _ _ (Grow.obj e hp) (.tup (.inl upd_same) (r.ex (Ex.new (e.free hp))))
end

/-! ### names, constants -/
def eVar (i : Nat) : Ev := fun ρ => match ρ[i]? with
  | some (.v d) => .ok (.v d) ρ
  | some (.o _) => .ok (.s i) ρ
  | some (.b _) => .ok (.s i) ρ
  | _ => .bad
def eC (d : D) : Ev := fun ρ => .ok (.v d) ρ
section
variable {X : Cx} {B : Bs} {W : WX} {x y : Expr} {a b : Ev} {pos : Pos}
theorem d_var {i : Nat} (h : PE X x (tVar i)) : PED X B W x (eVar i) := pe_wk h fun σ H Q ⟨F, ρ, S, q⟩ => by
  unfold eVar at q
  cases e : ρ[i]? with
  | none => rw [e] at q; exact q.elim
  | some s =>
    rw [e] at q
    have hl : i < σ.length := by rw [S.len]; exact (List.getElem?_eq_some_iff.mp e).1
    have hs := S.sl i s _ e (List.getElem?_eq_getElem hl)
    have mine : ∀ d, s.mine = some d → OutOk B W F σ Q (.ok (.s i) ρ) → tVar i σ H Q := fun d hd q => by
      obtain ⟨p, e1, _⟩ := hs.mine hd
      refine ⟨.ref p, ?_, q F H _ (Ex.refl F) S ?_⟩
      · rw [List.getElem?_eq_getElem hl, e1]
      · show σ[i]? = _
        rw [List.getElem?_eq_getElem hl, e1]
    cases s with
    | u => exact q.elim
    | v d =>
      obtain ⟨v, e1, e2⟩ := hs
      exact ⟨v, by rw [List.getElem?_eq_getElem hl, e1], q F H v (Ex.refl F) S e2⟩
    | o d => exact mine d rfl q
    | b d => exact mine d rfl q
    | e n => exact q.elim
theorem d_c {d : D} {v : V} (h : PE X x (tC v)) (r : ∀ F, Rep B.c F d v) : PED X B W x (eC d) := pe_wk h fun σ H Q ⟨F, ρ, S, q⟩ => q F H v (Ex.refl F) S (r F)
theorem d_int {i : Int} {j : Nat} : PED X B W (.Constant (.int i) j pos) (eC (.int i)) := d_c pe_int fun _ => .int i
theorem d_bl {i : Bool} {j : Nat} : PED X B W (.Constant (.bool i) j pos) (eC (.bool i)) := d_c pe_bl fun _ => .bl i
theorem d_non {j : Nat} : PED X B W (.Constant .none j pos) (eC .none) := d_c pe_non fun _ => .non
theorem d_str {s : Str} {j : Nat} : PED X B W (.Constant (.str s) j pos) (eC (.str s)) := d_c pe_str fun _ => .str s

/-! ### operations on two values -/
def retOp (ρ : Env) : Option Res → Out
  | some r => .ok r ρ
  | none => .bad
def eOp (f : D → D → Option Res) (a b : Ev) : Ev := fun ρ => (a ρ).bd fun r1 ρ1 => (b ρ1).bd fun r2 ρ2 => match look ρ2 r1, look ρ2 r2 with
  | some d1, some d2 => retOp ρ2 (f d1 d2)
  | _, _ => .bad
/-- an operation by values is worth f -/
def OpD (c : Ct) (r : R2) (f : D → D → Option Res) : Prop := ∀ F H d1 d2 x y res Q, Ex F H → RdX c F H d1 x → RdX c F H d2 y → f d1 d2 = some res → (∀ i, res ≠ .s i) ∧ (NewOk c F H Q res → r x y H Q)
theorem op2 {r : R2} {f : D → D → Option Res} (hf : OpD B.c r f) (σ : L2.St) (H : Hp) (Q : VK) (h : tE B W (eOp f a b) σ H Q) : tOp r (tE B W a) (tE B W b) σ H Q := by
  obtain ⟨F, ρ, S, h⟩ := h
  refine bd_ok S h fun r1 ρ1 F1 H1 x e1 S1 R1 h1 => ?_
  obtain ⟨F1', e1', S1', R1'⟩ := R1.hold S1
  refine bd_ok S1' (h1.mono e1') fun r2 ρ2 F2 H2 y e2 S2 R2 h2 => ?_
  have R1'' : ResOk B F2 σ H2 ρ2 r1.hold x := R1'.move hold_ne e2
  cases l1 : look ρ2 r1 with
  | none => simp only [l1] at h2; exact h2.elim
  | some d1 =>
    cases l2 : look ρ2 r2 with
    | none => simp only [l1, l2] at h2; exact h2.elim
    | some d2 =>
      simp only [l1, l2] at h2
      cases l3 : f d1 d2 with
      | none => rw [l3] at h2; exact h2.elim
      | some res =>
        rw [l3] at h2
        obtain ⟨ns, k⟩ := hf F2 H2 d1 d2 x y res Q S2.ex (R1''.rd S2 (by rw [look_hold]; exact l1)) (R2.rd S2 l2) l3
        exact k (newOk S2 h2 ns)
theorem d_op {op : Operator} {r : R2} {f : D → D → Option Res} (ho : OpR X (binaryOp op) r) (hf : OpD B.c r f) (ha : PED X B W x a) (hb : PED X B W y b) : PED X B W (.BinOp x op y pos) (eOp f a b) :=
  pe_wk (pe_op ho ha hb) (op2 hf)
theorem d_cmp {op : CmpOp} {r : R2} {f : D → D → Option Res} (ho : OpR X (compareOp op) r) (hf : OpD B.c r f) (ha : PED X B W x a) (hb : PED X B W y b) (hm : behindInMarks op y = false) : PED X B W (.Compare x [op] [y] pos) (eOp f a b) :=
  pe_wk (pe_cmpR ho ha hb hm) (op2 hf)
/-- a comparison as a test: its answer is a bool -/
def eOpT (f : D → D → Option Bool) (a b : Ev) : EvT := fun ρ => (a ρ).bdT fun r1 ρ1 => (b ρ1).bdT fun r2 ρ2 => match look ρ2 r1, look ρ2 r2 with
  | some d1, some d2 => match f d1 d2 with
    | some k => .ok k ρ2
    | none => .bad
  | _, _ => .bad
def boolRes (f : D → D → Option Bool) : D → D → Option Res := fun d1 d2 => (f d1 d2).map fun b => .v (.bool b)
theorem d_cmpT {op : CmpOp} {r : R2} {f : D → D → Option Bool} (ho : OpR X (compareOp op) r) (hf : OpD B.c r (boolRes f)) (ha : PED X B W x a) (hb : PED X B W y b) (hm : behindInMarks op y = false) : PTD X B W (.Compare x [op] [y] pos) (eOpT f a b) :=
  pt_wk (pt_cmpR ho ha hb hm) fun σ H Q ⟨F, ρ, S, h⟩ => by
    refine bdT_ok S h fun r1 ρ1 F1 H1 x e1 S1 R1 h1 => ?_
    obtain ⟨F1', e1', S1', R1'⟩ := R1.hold S1
    refine bdT_ok S1' (h1.mono e1') fun r2 ρ2 F2 H2 y e2 S2 R2 h2 => ?_
    have R1'' : ResOk B F2 σ H2 ρ2 r1.hold x := R1'.move hold_ne e2
    cases l1 : look ρ2 r1 with
    | none => simp only [l1] at h2; exact h2.elim
    | some d1 =>
      cases l2 : look ρ2 r2 with
      | none => simp only [l1, l2] at h2; exact h2.elim
      | some d2 =>
        simp only [l1, l2] at h2
        cases l3 : f d1 d2 with
        | none => rw [l3] at h2; exact h2.elim
        | some k =>
          rw [l3] at h2
          obtain ⟨ns, kk⟩ := hf F2 H2 d1 d2 x y (.v (.bool k)) _ S2.ex (R1''.rd S2 (by rw [look_hold]; exact l1)) (R2.rd S2 l2) (by unfold boolRes; rw [l3]; rfl)
          refine kk fun F' H' z g q => ?_
          cases q
          exact ⟨k, rfl, h2 F' H' g.f (S2.grow g)⟩
/-- a bool's expression as a test -/
def eB (a : Ev) : EvT := fun ρ => (a ρ).bdT fun r ρ1 => match look ρ1 r with
  | some (.bool k) => .ok k ρ1
  | _ => .bad
theorem d_val (ha : PED X B W x a) (he : ∀ whole, isTrue x X.env whole = (do let v ← whole; standAt x.pos; holding [v] (truthy v)) := by intro _; rfl) : PTD X B W x (eB a) :=
  pt_wk (pt_val ha he) fun σ H Q ⟨F, ρ, S, h⟩ => by
    refine bdT_ok S h fun r1 ρ1 F1 H1 x e1 S1 R1 h1 => ?_
    cases l1 : look ρ1 r1 with
    | none => simp only [l1] at h1; exact h1.elim
    | some d =>
      have q := R1.rd S1 l1
      simp only [l1] at h1
      cases d with
      | bool k =>
        cases q with
        | rep q => cases q; exact ⟨k, rfl, h1 F1 H1 (Ex.refl _) S1⟩
        | own o => cases o
      | none => exact h1.elim
      | int _ => exact h1.elim
      | str _ => exact h1.elim
      | list _ => exact h1.elim
      | tuple _ => exact h1.elim
      | dict _ => exact h1.elim

/-! ### and, or, not, if -/
def eAnd (a b : EvT) : EvT := fun ρ => (a ρ).bd fun k ρ1 => match k with
  | true => b ρ1
  | false => .ok false ρ1
def eOr (a b : EvT) : EvT := fun ρ => (a ρ).bd fun k ρ1 => match k with
  | true => .ok true ρ1
  | false => b ρ1
def eNot (a : EvT) : EvT := fun ρ => (a ρ).bd fun k ρ1 => .ok (!k) ρ1
/-- a test as a value -/
def eT (a : EvT) : Ev := fun ρ => (a ρ).bdE fun k ρ1 => .ok (.v (.bool k)) ρ1
def eIf (t : EvT) (a b : Ev) : Ev := fun ρ => (t ρ).bdE fun k ρ1 => match k with
  | true => a ρ1
  | false => b ρ1
variable {s t : EvT} {z : Expr} {rest : List Expr}
theorem w_and1 (h : PTD X B W x s) : PWD X B W (.BoolOp .And [x] pos) s := pw_and1 h
theorem w_or1 (h : PTD X B W x s) : PWD X B W (.BoolOp .Or [x] pos) s := pw_or1 h
theorem w_and (h : PTD X B W x s) (h2 : PWD X B W (.BoolOp .And (y :: rest) pos) t) : PWD X B W (.BoolOp .And (x :: y :: rest) pos) (eAnd s t) :=
  pw_wk (pw_and h h2) fun σ H Q ⟨F, ρ, S, h⟩ => tbd_ok S h fun k ρ1 F1 H1 e1 S1 h1 => by
    cases k with
    | true => rw [if_pos rfl]; exact ⟨F1, ρ1, S1, h1⟩
    | false => rw [if_neg Bool.false_ne_true]; exact h1 F1 H1 (Ex.refl _) S1
theorem w_or (h : PTD X B W x s) (h2 : PWD X B W (.BoolOp .Or (y :: rest) pos) t) : PWD X B W (.BoolOp .Or (x :: y :: rest) pos) (eOr s t) :=
  pw_wk (pw_or h h2) fun σ H Q ⟨F, ρ, S, h⟩ => tbd_ok S h fun k ρ1 F1 H1 e1 S1 h1 => by
    cases k with
    | true => rw [if_pos rfl]; exact h1 F1 H1 (Ex.refl _) S1
    | false => rw [if_neg Bool.false_ne_true]; exact ⟨F1, ρ1, S1, h1⟩
theorem t_not (h : PTD X B W x s) : PTD X B W (.UnaryOp .Not x pos) (eNot s) :=
  pt_wk (pt_not h) fun σ H Q ⟨F, ρ, S, h⟩ => tbd_ok S h fun k ρ1 F1 H1 e1 S1 h1 => h1 F1 H1 (Ex.refl _) S1
theorem d_if {c : Expr} (hc : PTD X B W c s) (ha : PED X B W x a) (hb : PED X B W y b) : PED X B W (.IfExp c x y pos) (eIf s a b) :=
  pe_wk (pe_ifExp hc ha hb) fun σ H Q ⟨F, ρ, S, h⟩ => tbdE_ok S h fun k ρ1 F1 H1 e1 S1 h1 => by
    cases k with
    | true => rw [if_pos rfl]; exact ⟨F1, ρ1, S1, h1⟩
    | false => rw [if_neg Bool.false_ne_true]; exact ⟨F1, ρ1, S1, h1⟩
/-- values: bools -/
def eAndV (a b : Ev) : Ev := fun ρ => (a ρ).bd fun r ρ1 => match look ρ1 r with
  | some (.bool true) => b ρ1
  | some (.bool false) => .ok (.v (.bool false)) ρ1
  | _ => .bad
def eOrV (a b : Ev) : Ev := fun ρ => (a ρ).bd fun r ρ1 => match look ρ1 r with
  | some (.bool true) => .ok (.v (.bool true)) ρ1
  | some (.bool false) => b ρ1
  | _ => .bad
def eNotV (a : Ev) : Ev := fun ρ => (a ρ).bd fun r ρ1 => match look ρ1 r with
  | some (.bool k) => .ok (.v (.bool (!k))) ρ1
  | _ => .bad
theorem RdX.bool {c : Ct} {F H : Hp} {k : Bool} {x : V} (h : RdX c F H (.bool k) x) : x = .bl k := by
  cases h with
  | rep q => cases q; rfl
  | own o => cases o
theorem d_one {op : BoolOp} (h : PED X B W x a) : PED X B W (.BoolOp op [x] pos) a := pe_one h
theorem d_and (h : PED X B W x a) (h2 : PED X B W (.BoolOp .And (y :: rest) pos) b) : PED X B W (.BoolOp .And (x :: y :: rest) pos) (eAndV a b) :=
  pe_wk (pe_and h h2) fun σ H Q ⟨F, ρ, S, h⟩ => bd_ok S h fun r ρ1 F1 H1 x e1 S1 R1 h1 => by
    cases l1 : look ρ1 r with
    | none => simp only [l1] at h1; exact h1.elim
    | some d =>
      have q := R1.rd S1 l1
      simp only [l1] at h1
      cases d with
      | bool k =>
        refine ⟨k, q.bool, ?_⟩
        cases k with
        | true => rw [if_pos rfl]; exact ⟨F1, ρ1, S1, h1⟩
        | false => rw [if_neg Bool.false_ne_true]; exact h1 F1 H1 _ (Ex.refl _) S1 (.bl false)
      | _ => exact h1.elim
theorem d_or (h : PED X B W x a) (h2 : PED X B W (.BoolOp .Or (y :: rest) pos) b) : PED X B W (.BoolOp .Or (x :: y :: rest) pos) (eOrV a b) :=
  pe_wk (pe_or h h2) fun σ H Q ⟨F, ρ, S, h⟩ => bd_ok S h fun r ρ1 F1 H1 x e1 S1 R1 h1 => by
    cases l1 : look ρ1 r with
    | none => simp only [l1] at h1; exact h1.elim
    | some d =>
      have q := R1.rd S1 l1
      simp only [l1] at h1
      cases d with
      | bool k =>
        refine ⟨k, q.bool, ?_⟩
        cases k with
        | true => rw [if_pos rfl]; exact h1 F1 H1 _ (Ex.refl _) S1 (.bl true)
        | false => rw [if_neg Bool.false_ne_true]; exact ⟨F1, ρ1, S1, h1⟩
      | _ => exact h1.elim
theorem d_not (h : PED X B W x a) : PED X B W (.UnaryOp .Not x pos) (eNotV a) :=
  pe_wk (pe_not h) fun σ H Q ⟨F, ρ, S, h⟩ => bd_ok S h fun r ρ1 F1 H1 x e1 S1 R1 h1 => by
    cases l1 : look ρ1 r with
    | none => simp only [l1] at h1; exact h1.elim
    | some d =>
      have q := R1.rd S1 l1
      simp only [l1] at h1
      cases d with
      | bool k => exact ⟨k, q.bool, h1 F1 H1 _ (Ex.refl _) S1 (.bl _)⟩
      | _ => exact h1.elim
end
end Pd
end
section
set_option Elab.async false
set_option linter.all false
set_option maxRecDepth 100000
set_option maxHeartbeats 4000000
namespace Pd
open PySem L2

mutual
/-- data without dicts, at most n deep -/
def fit : Nat → D → Bool
  | _, .none => true
  | _, .bool _ => true
  | _, .int _ => true
  | _, .str _ => true
  | 0, .list _ => false
  | 0, .tuple _ => false
  | n + 1, .list xs => fitAll n xs
  | n + 1, .tuple xs => fitAll n xs
  | _, .dict _ => false
def fitAll : Nat → List D → Bool
  | _, [] => true
  | n, x :: xs => fit n x && fitAll n xs
end
mutual
theorem fit_ok : ∀ (n : Nat) (d : D), fit n d = true → PyData.plain d = true ∧ PyData.depth d ≤ n
  | n, .none, _ => by simp [PyData.plain, PyData.depth]
  | n, .bool _, _ => by simp [PyData.plain, PyData.depth]
  | n, .int _, _ => by simp [PyData.plain, PyData.depth]
  | n, .str _, _ => by simp [PyData.plain, PyData.depth]
  | 0, .list _, h => by simp [fit] at h
  | 0, .tuple _, h => by simp [fit] at h
  | n + 1, .list xs, h => by
    have q := fitAll_ok n xs (by simpa [fit] using h)
    simp only [PyData.plain, PyData.depth]
    exact ⟨q.1, by omega⟩
  | n + 1, .tuple xs, h => by
    have q := fitAll_ok n xs (by simpa [fit] using h)
    simp only [PyData.plain, PyData.depth]
    exact ⟨q.1, by omega⟩
  | 0, .dict _, h => by simp [fit] at h
  | n + 1, .dict _, h => by simp [fit] at h
theorem fitAll_ok : ∀ (n : Nat) (ds : List D), fitAll n ds = true → PyData.plainAll ds = true ∧ PyData.depthAll ds ≤ n
  | n, [], _ => by simp [PyData.plainAll, PyData.depthAll]
  | n, x :: xs, h => by
    simp only [fitAll, Bool.and_eq_true] at h
    have a := fit_ok n x h.1
    have b := fitAll_ok n xs h.2
    simp only [PyData.plainAll, PyData.depthAll, Bool.and_eq_true]
    exact ⟨⟨a.1, b.1⟩, by omega⟩
end
section
variable {c : Ct} {F H : Hp} {x y : V}
theorem RdX.int {i : Int} (h : RdX c F H (.int i) x) : x = .int i := by
  cases h with
  | rep q => cases q; rfl
  | own o => cases o
theorem RdX.str {i : Str} (h : RdX c F H (.str i) x) : x = .str i := by
  cases h with
  | rep q => cases q; rfl
  | own o => cases o
theorem RdX.non (h : RdX c F H .none x) : x = .non := by
  cases h with
  | rep q => cases q; rfl
  | own o => cases o
theorem RdX.list {ds : List D} (e : Ex F H) (h : RdX c F H (.list ds) x) : ∃ a xs, x = .ref a ∧ Rd H a (.lst xs) ∧ Reps c F ds xs := by
  cases h with
  | rep q => cases q with | lst h r => exact ⟨_, _, rfl, .inl (e.tp _ _ trivial h), r⟩
  | own o => cases o with | lst h r => exact ⟨_, _, rfl, .inl h, r⟩
theorem RdX.scr {ds : List D} (e : Ex F H) (h : RdX c F H (scrD ds) x) : ∃ a xs, x = .ref a ∧ SqL c.K H a xs ∧ Reps c F ds xs := by
  cases h with
  | rep q => cases q with | scr h r => exact ⟨_, _, rfl, exL e h, r⟩
  | own o => cases o
theorem RdX.listX {ds : List D} (e : Ex F H) (h : RdX c F H (.list ds) x) : ∃ a xs, x = .ref a ∧ H a = some (.lst xs) ∧ Reps c F ds xs := by
  cases h with
  | rep q => cases q with | lst h r => exact ⟨_, _, rfl, e.tp _ _ trivial h, r⟩
  | own o => cases o with | lst h r => exact ⟨_, _, rfl, h, r⟩
theorem RdX.tuple {ds : List D} (e : Ex F H) (h : RdX c F H (.tuple ds) x) : ∃ a xs, x = .ref a ∧ SqT c.K H a xs ∧ Reps c F ds xs ∧ TupAt c F a xs := by
  cases h with
  | rep q => cases q with | tup h r => exact ⟨_, _, rfl, (h.ex e).sq, r, h⟩
  | own o => cases o
/-- by the library's relation, in H -/
theorem RdX.dp {d : D} (e : Ex F H) (h : RdX c F H d x) (p : PyData.plain d = true) : Dp c.K H x d := by
  cases h with
  | rep q => exact (q.ex e).dp p
  | own o => cases o with
    | lst h r => exact .lst (SqL.of h) ((r.ex e).dp (by simpa [PyData.plain] using p))
    | dK _ _ => simp [PyData.plain] at p
    | dT _ _ => simp [PyData.plain] at p
end

/-! ### numbers -/
/-- a truth that nothing computes -/
noncomputable def yes (p : Prop) : Bool := @decide p (Classical.propDecidable p)
theorem yes_iff {p : Prop} : yes p = true ↔ p := by unfold yes; exact @decide_eq_true_iff p (Classical.propDecidable p)
noncomputable def mulFits (i j : Int) : Bool := yes ((-(2 ^ 64) < i ∧ i < 2 ^ 64) ∨ (-(2 ^ 64) < j ∧ j < 2 ^ 64) ∨ i.natAbs.log2 + j.natAbs.log2 < 1000000)
noncomputable def lineOk (n : Nat) : Bool := yes (n ≤ sizeLine)
noncomputable def divOk (j : Int) : Bool := yes (0 < j ∧ j.natAbs.log2 < 9000)
noncomputable def divN (j : Int) : Bool := yes (j ≠ 0 ∧ j.natAbs < 1073741824)
noncomputable def powOk (i j : Int) : Bool := yes (0 ≤ j ∧ j ≤ 1000000 ∧ i.natAbs < 2 ^ 64)
noncomputable def manyOk (k : Int) : Bool := yes (-(2 ^ 63) ≤ k ∧ k < 2 ^ 63)
noncomputable def fAdd : D → D → Option Res
  | .int i, .int j => some (.v (.int (i + j)))
  | .str a, .str b => if lineOk (a.length + b.length) then some (.v (.str (a ++ b))) else none
  | .list xs, .list ys => if lineOk (xs.length + ys.length) then some (.f (.list (xs ++ ys))) else none
  | .tuple xs, .tuple ys => if lineOk (xs.length + ys.length) then some (.v (.tuple (xs ++ ys))) else none
  | _, _ => none
def fSub : D → D → Option Res
  | .int i, .int j => some (.v (.int (i - j)))
  | _, _ => none
noncomputable def fMul : D → D → Option Res
  | .int i, .int j => if mulFits i j then some (.v (.int (i * j))) else none
  | .list xs, .int k => if manyOk k && lineOk (xs.length * k.toNat) then some (.f (.list (List.replicate k.toNat xs).flatten)) else none
  | .tuple xs, .int k => if (decide (k = 1) || decide (xs = [])) && (decide (-1000000000 ≤ k) && decide (k ≤ 1000000000)) then some (.v (.tuple xs)) else if decide (k ≤ 0) && (decide (xs ≠ []) && decide (-1000000000 ≤ k)) then some (.v (.tuple [])) else
    if decide (xs ≠ []) && decide (2 ≤ k) && decide (k ≤ 1000) && decide (xs.length ≤ 1000) then some (.v (.tuple (List.replicate k.toNat xs).flatten)) else none
  | _, _ => none
noncomputable def fDiv : D → D → Option Res
  | .int i, .int j => if divOk j then some (.v (.int (i / j))) else if divN j then some (.v (.int (i.fdiv j))) else none
  | _, _ => none
def fMod : D → D → Option Res
  | .int i, .int j => if 0 < j then some (.v (.int (i % j))) else if j ≠ 0 then some (.v (.int (i.fmod j))) else none
  | _, _ => none
noncomputable def fPow : D → D → Option Res
  | .int i, .int j => if powOk i j then some (.v (.int (i ^ j.toNat))) else none
  | _, _ => none
noncomputable def fShl : D → D → Option Res
  | .int i, .int j => if powOk i j then some (.v (.int (i * 2 ^ j.toNat))) else none
  | _, _ => none
def fShr : D → D → Option Res
  | .int i, .int j => if 0 ≤ j then some (.v (.int (i / 2 ^ j.toNat))) else none
  | _, _ => none
def fXor : D → D → Option Res
  | .int i, .int j => some (.v (.int (Builtin.bitXor i j)))
  | _, _ => none
def fAnd : D → D → Option Res
  | .int i, .int j => some (.v (.int (Builtin.bitAnd i j)))
  | _, _ => none
theorem sv {d : D} : ∀ i, Res.v d ≠ .s i := fun _ h => by cases h
theorem sf {d : D} : ∀ i, Res.f d ≠ .s i := fun _ h => by cases h
section
variable {X : Cx} {pins : List (Addr × Obj)} {σ : L2.St} {H : Hp} {s : Shared} {l : Addr} {xs : List V}
theorem lstR (I : L2.Inv X pins σ H s) (hH : Rd H l (.lst xs)) : xs.length ≤ sizeLine ∧ ∃ (its : List Value) (n : Nat), Vals xs its ∧ xs.length = its.length ∧ s.heap.get? l = some { cls := .type "list", data := .seq its.toArray n } := by
  obtain ⟨z, its, n, r, e⟩ := hH.ok I.hok
  exact ⟨z, its, n, r, r.length, e⟩
/-- list + list, wherever they stand -/
def rCatL : R2 := fun x y H Q => ∃ l b xs zs, x = .ref l ∧ y = .ref b ∧ Rd H l (.lst xs) ∧ Rd H b (.lst zs) ∧ xs.length + zs.length ≤ sizeLine ∧ ∀ p, H p = none → Q (.ref p) (upd H p (.lst (xs ++ zs)))
theorem op_catL : OpR X (binaryOp .Add) rCatL := by
  intro pins s σ H x y v u Q I rx ry h
  obtain ⟨l, b, xs, zs, rfl, rfl, hH, hB, hz, q⟩ := h
  cases rx
  cases ry
  obtain ⟨z, its, n, r, s1, e⟩ := lstR I hH
  obtain ⟨z2, its2, n2, r2, s2, e2⟩ := lstR I hB
  refine PySem.P.add_list e e2 ?_ (by rw [List.size_toArray, List.size_toArray]; omega)
  rw [show its.toArray ++ its2.toArray = (its ++ its2).toArray by simp]
  exact ⟨.ref _, _, I.lnew (t' := s.toks) (r.append r2) (by rw [List.length_append]; omega), rfl, q _ I.fresh⟩
/-- list * int -/
def rRepL : R2 := fun x y H Q => ∃ l k xs, x = .ref l ∧ y = .int k ∧ Rd H l (.lst xs) ∧ -(2 ^ 63) ≤ k ∧ k < 2 ^ 63 ∧ xs.length * k.toNat ≤ sizeLine ∧
  ∀ p, H p = none → Q (.ref p) (upd H p (.lst (List.replicate k.toNat xs).flatten))
theorem rep_fold (its : List Value) (m : Nat) : List.foldl (fun x1 x2 => x1 ++ x2) #[] (List.replicate (if its.toArray.isEmpty = true then 0 else m) its.toArray) = (List.replicate m its).flatten.toArray := by
  have g : ∀ k : Nat, List.foldl (fun x1 x2 => x1 ++ x2) #[] (List.replicate k its.toArray) = (List.replicate k its).flatten.toArray := fun k => by
    have q := foldl_rep its k []
    simpa using q
  rw [g]
  cases its with
  | nil => simp
  | cons _ _ => rw [if_neg (by simp)]
theorem op_repL : OpR X (binaryOp .Mult) rRepL := by
  intro pins s σ H x y v u Q I rx ry h
  obtain ⟨l, k, xs, e1, e2, hH, lo, hi, hz, q⟩ := h
  subst e1 e2
  cases rx
  obtain ⟨t, e3⟩ := ry
  subst e3
  obtain ⟨z, its, n, r, hl, e⟩ := lstR I hH
  have a1 : its.toArray.size * k.toNat ≤ sizeLine := by
    rw [List.size_toArray, ← hl]
    exact hz
  have a2 : (sizeLine : Nat) ≤ (2 ^ 63 - 1) / 8 := by decide
  have a3 : ¬ (!Builtin.List.listFitsIndex k) = true := by
    rw [fitsIndex_both lo hi]
    decide
  have a4 : ¬ Builtin.List.listTooLong (its.toArray.size * k.toNat) = true := by
    rw [notLongL a1]
    decide
  refine wpAny_binaryOp_repeat_ref (T := "list") (U := "int") (by decide) ⟨_, e, rfl⟩ (fun s' => typeIs_int s' k t) noFill_list_mul
    F.fills_int_mul F.slot_int_rmul repeat_list F.slot_int_index.lookup ?_
  refine call_meets F.slot_int_rmul (typeIs_int s k t) F.entry_int_rmul (F.args_int_rmul_2 _ _) (int___rmul___int_list k t l its.toArray n) ⟨e, rfl, ⟨_, e, rfl⟩, ?_⟩
  refine call_meets F.slot_list_mul ⟨_, e, rfl⟩ F.entry_list_mul (F.args_list_mul_2 _ _)
    (AutoListH.list___mul___list_int_3 l its.toArray n k t a3 (by omega) a4) ⟨e, ?_⟩
  rw [rep_fold]
  refine ⟨.ref _, _, I.lnew (t' := s.toks) (r.rep k.toNat) ?_, rfl, q _ I.fresh⟩
  rw [PyProof.Rows.lm_len_rep_flat, Nat.mul_comm]
  exact hz
end

section
variable {c : Ct} {X : Cx}
theorem lineOk_le {n : Nat} (h : lineOk n = true) : n ≤ sizeLine := yes_iff.mp h
theorem Reps.rep {c : Ct} {F : Hp} {ds : List D} {vs : List V} (h : Reps c F ds vs) : ∀ k : Nat, Reps c F (List.replicate k ds).flatten (List.replicate k vs).flatten
  | 0 => .nil
  | k + 1 => by
    rw [List.replicate_succ, List.replicate_succ, List.flatten_cons, List.flatten_cons]
    exact h.append (Reps.rep h k)
theorem Reps.nil_iff {c : Ct} {F : Hp} {ds : List D} {vs : List V} (h : Reps c F ds vs) : vs = [] ↔ ds = [] := by
  cases h with
  | nil => simp
  | cons _ _ => simp
abbrev rAddA (K : Frag) : R2 := fun x y H Q => rI0 (fun i j => .int (i + j)) x y H Q ∨ ((∃ i j, x = .str i ∧ y = .str j ∧ i.length + j.length ≤ sizeLine ∧ Q (.str (i ++ j)) H) ∨ (rCatL x y H Q ∨ rCatA K x y H Q))
theorem o_add : OpR X (binaryOp .Add) (rAddA X.K) := OpR.or op_add (OpR.or op_add_str (OpR.or op_catL op_catA))
theorem D_add : OpD c (rAddA c.K) fAdd := by
  intro F H d1 d2 x y res Q e h1 h2 hf
  cases d1 with
  | int i =>
    cases d2 with
    | int j =>
      cases hf
      exact ⟨sv, fun k => .inl ⟨i, j, h1.int, h2.int, k.here e (.int _)⟩⟩
    | _ => cases hf
  | str i =>
    cases d2 with
    | str j =>
      simp only [fAdd] at hf
      split at hf
      · rename_i hl
        cases hf
        exact ⟨sv, fun k => .inr (.inl ⟨i, j, h1.str, h2.str, lineOk_le hl, k.here e (.str _)⟩)⟩
      · cases hf
    | _ => cases hf
  | list xs =>
    cases d2 with
    | list ys =>
      simp only [fAdd] at hf
      split at hf
      · rename_i hl
        cases hf
        obtain ⟨a, vs, e1, r1, q1⟩ := h1.list e
        obtain ⟨b, ws, e2, r2, q2⟩ := h2.list e
        refine ⟨sf, fun k => .inr (.inr (.inl ⟨a, b, vs, ws, e1, e2, r1, r2, ?_, fun p hp => k.lst e (q1.append q2) hp⟩))⟩
        rw [q1.length, q2.length]; exact lineOk_le hl
      · cases hf
    | _ => cases hf
  | tuple xs =>
    cases d2 with
    | tuple ys =>
      simp only [fAdd] at hf
      split at hf
      · rename_i hl
        cases hf
        obtain ⟨a, vs, e1, r1, q1, t1⟩ := h1.tuple e
        obtain ⟨b, ws, e2, r2, q2, t2⟩ := h2.tuple e
        refine ⟨sv, fun k => .inr (.inr (.inr ⟨a, b, vs, ws, e1, e2, r1, r2, ?_, fun z => ?_, fun _ z => ?_, fun _ _ p hp => k.tup e (q1.append q2) hp⟩))⟩
        · rw [q1.length, q2.length]; exact lineOk_le hl
        · have z' := q1.nil_iff.mp z
          subst z'
          exact k.here e (.tup t2 q2)
        · have z' := q2.nil_iff.mp z
          subst z'
          rw [List.append_nil] at k
          exact k.here e (.tup t1 q1)
      · cases hf
    | _ => cases hf
  | _ => cases hf
theorem D_sub : OpD c (rI0 fun i j => .int (i - j)) fSub := by
  intro F H d1 d2 x y res Q e h1 h2 hf
  cases d1 <;> cases d2 <;> cases hf
  exact ⟨sv, fun k => ⟨_, _, h1.int, h2.int, k.here e (.int _)⟩⟩
abbrev rMulA (K : Frag) : R2 := fun x y H Q => rI CMul (fun i j => .int (i * j)) x y H Q ∨ (rI CMulW (fun i j => .int (i * j)) x y H Q ∨ (rRepL x y H Q ∨ (rRepT K x y H Q ∨ rRep1 K x y H Q)))
theorem o_mul : OpR X (binaryOp .Mult) (rMulA X.K) := OpR.or op_mul (OpR.or op_mulW (OpR.or op_repL (OpR.or op_repT op_rep1)))
theorem D_mul : OpD c (rMulA c.K) fMul := by
  intro F H d1 d2 x y res Q e h1 h2 hf
  cases d1 with
  | int i =>
    cases d2 with
    | int j =>
      simp only [fMul] at hf
      split at hf
      · rename_i hm
        cases hf
        refine ⟨sv, fun k => ?_⟩
        rcases yes_iff.mp hm with hm | hm | hm
        · exact .inl ⟨i, j, h1.int, h2.int, .inl hm, k.here e (.int _)⟩
        · exact .inl ⟨i, j, h1.int, h2.int, .inr hm, k.here e (.int _)⟩
        · exact .inr (.inl ⟨i, j, h1.int, h2.int, hm, k.here e (.int _)⟩)
      · cases hf
    | _ => cases hf
  | list xs =>
    cases d2 with
    | int j =>
      simp only [fMul] at hf
      split at hf
      · rename_i hm
        cases hf
        rw [Bool.and_eq_true] at hm
        have hk := yes_iff.mp hm.1
        obtain ⟨a, vs, e1, r1, q1⟩ := h1.list e
        refine ⟨sf, fun k => .inr (.inr (.inl ⟨a, j, vs, e1, h2.int, r1, hk.1, hk.2, ?_, fun p hp => k.lst e (q1.rep _) hp⟩))⟩
        rw [q1.length]; exact lineOk_le hm.2
      · cases hf
    | _ => cases hf
  | tuple xs =>
    cases d2 with
    | int j =>
      simp only [fMul] at hf
      split at hf
      · rename_i hm
        cases hf
        simp only [Bool.and_eq_true, Bool.or_eq_true, decide_eq_true_eq] at hm
        obtain ⟨a, vs, e1, r1, q1, t1⟩ := h1.tuple e
        refine ⟨sv, fun k => .inr (.inr (.inr (.inr ⟨a, j, vs, e1, h2.int, r1, hm.2.1, hm.2.2, .inl ⟨?_, k.here e (.tup t1 q1)⟩⟩)))⟩
        rcases hm.1 with z | z
        · exact .inl z
        · exact .inr (q1.nil_iff.mpr z)
      · split at hf
        · rename_i hm
          cases hf
          simp only [Bool.and_eq_true, decide_eq_true_eq] at hm
          obtain ⟨a, vs, e1, r1, q1, t1⟩ := h1.tuple e
          exact ⟨sv, fun k => .inr (.inr (.inr (.inr ⟨a, j, vs, e1, h2.int, r1, hm.2.2, by omega, .inr ⟨hm.1, fun z => hm.2.1 (q1.nil_iff.mp z), fun p hp => k.tup e .nil hp⟩⟩)))⟩
        · split at hf
          · rename_i hm
            cases hf
            simp only [Bool.and_eq_true, decide_eq_true_eq] at hm
            obtain ⟨a, vs, e1, r1, q1, _⟩ := h1.tuple e
            refine ⟨sv, fun k => .inr (.inr (.inr (.inl ⟨a, j, vs, e1, h2.int, r1, ?_, hm.1.1.2, hm.1.2, ?_, fun p hp => k.tup e (q1.rep _) hp⟩)))⟩
            · exact fun z => hm.1.1.1 (q1.nil_iff.mp z)
            · rw [q1.length]; exact hm.2
          · cases hf
    | _ => cases hf
  | _ => cases hf
abbrev rDivA : R2 := fun x y H Q => rI CDivW (fun i j => .int (i / j)) x y H Q ∨ rI CDivN (fun i j => .int (i.fdiv j)) x y H Q
theorem o_div : OpR X (binaryOp .FloorDiv) rDivA := OpR.or op_fdivW op_fdivN
theorem D_div : OpD c rDivA fDiv := by
  intro F H d1 d2 x y res Q e h1 h2 hf
  cases d1 <;> cases d2 <;> first | cases hf | skip
  simp only [fDiv] at hf
  split at hf
  · rename_i hm
    cases hf
    exact ⟨sv, fun k => .inl ⟨_, _, h1.int, h2.int, yes_iff.mp hm, k.here e (.int _)⟩⟩
  · split at hf
    · rename_i _ hm
      cases hf
      exact ⟨sv, fun k => .inr ⟨_, _, h1.int, h2.int, yes_iff.mp hm, k.here e (.int _)⟩⟩
    · cases hf
abbrev rModA : R2 := fun x y H Q => rI (fun _ j => 0 < j) (fun i j => .int (i % j)) x y H Q ∨ rI (fun _ j => j ≠ 0) (fun i j => .int (i.fmod j)) x y H Q
theorem o_mod : OpR X (binaryOp .Mod) rModA := OpR.or op_mod op_modN
theorem D_mod : OpD c rModA fMod := by
  intro F H d1 d2 x y res Q e h1 h2 hf
  cases d1 <;> cases d2 <;> first | cases hf | skip
  simp only [fMod] at hf
  split at hf
  · rename_i hm
    cases hf
    exact ⟨sv, fun k => .inl ⟨_, _, h1.int, h2.int, hm, k.here e (.int _)⟩⟩
  · split at hf
    · rename_i _ hm
      cases hf
      exact ⟨sv, fun k => .inr ⟨_, _, h1.int, h2.int, hm, k.here e (.int _)⟩⟩
    · cases hf
theorem D_pow : OpD c (rI CPow fun i j => .int (i ^ j.toNat)) fPow := by
  intro F H d1 d2 x y res Q e h1 h2 hf
  cases d1 <;> cases d2 <;> first | cases hf | skip
  simp only [fPow] at hf
  split at hf
  · rename_i hm
    cases hf
    exact ⟨sv, fun k => ⟨_, _, h1.int, h2.int, yes_iff.mp hm, k.here e (.int _)⟩⟩
  · cases hf
theorem D_shl : OpD c (rI CPow fun i j => .int (i * 2 ^ j.toNat)) fShl := by
  intro F H d1 d2 x y res Q e h1 h2 hf
  cases d1 <;> cases d2 <;> first | cases hf | skip
  simp only [fShl] at hf
  split at hf
  · rename_i hm
    cases hf
    exact ⟨sv, fun k => ⟨_, _, h1.int, h2.int, yes_iff.mp hm, k.here e (.int _)⟩⟩
  · cases hf
theorem D_shr : OpD c (rI (fun _ j => 0 ≤ j) fun i j => .int (i / 2 ^ j.toNat)) fShr := by
  intro F H d1 d2 x y res Q e h1 h2 hf
  cases d1 <;> cases d2 <;> first | cases hf | skip
  simp only [fShr] at hf
  split at hf
  · rename_i hm
    cases hf
    exact ⟨sv, fun k => ⟨_, _, h1.int, h2.int, hm, k.here e (.int _)⟩⟩
  · cases hf
theorem D_xor : OpD c (rI0 fun i j => .int (Builtin.bitXor i j)) fXor := by
  intro F H d1 d2 x y res Q e h1 h2 hf
  cases d1 <;> cases d2 <;> cases hf
  exact ⟨sv, fun k => ⟨_, _, h1.int, h2.int, k.here e (.int _)⟩⟩
theorem D_band : OpD c (rI0 fun i j => .int (Builtin.bitAnd i j)) fAnd := by
  intro F H d1 d2 x y res Q e h1 h2 hf
  cases d1 <;> cases d2 <;> cases hf
  exact ⟨sv, fun k => ⟨_, _, h1.int, h2.int, k.here e (.int _)⟩⟩
end
end Pd
end
section
set_option Elab.async false
set_option linter.all false
set_option maxRecDepth 100000
set_option maxHeartbeats 4000000
namespace Pd
open PySem L2

/-! ### comparisons -/
def fLt : D → D → Option Bool
  | .int i, .int j => some (decide (i < j))
  | .str a, .str b => some (decide (a.cps.toList < b.cps.toList))
  | _, _ => none
def fLe : D → D → Option Bool
  | .int i, .int j => some (decide (i ≤ j))
  | .str a, .str b => some (!decide (b.cps.toList < a.cps.toList))
  | _, _ => none
def fGt : D → D → Option Bool
  | .int i, .int j => some (decide (j < i))
  | .str a, .str b => some (decide (b.cps.toList < a.cps.toList))
  | _, _ => none
def fGe : D → D → Option Bool
  | .int i, .int j => some (decide (j ≤ i))
  | .str a, .str b => some (!decide (a.cps.toList < b.cps.toList))
  | _, _ => none
def fEq (a b : D) : Option Bool := if fit 60 a && fit 60 b then some (PyData.eqv a b) else none
def fNe (a b : D) : Option Bool := if fit 60 a && fit 60 b then some (!PyData.eqv a b) else none
def isNone : D → Bool
  | .none => true
  | _ => false
def fIsN (a b : D) : Option Bool := match b with
  | .none => some (isNone a)
  | .bool k => match a with
    | .bool j => some (j == k)
    | _ => none
  | _ => none
def fNotN (a b : D) : Option Bool := (fIsN a b).map (!·)
section
variable {X : Cx}
def rEqP (K : Frag) : R2 := fun x y H Q => ∃ d e, Dp K H x d ∧ Dp K H y e ∧ d.plain = true ∧ e.plain = true ∧ d.depth ≤ 60 ∧ Q (.bl (PyData.eqv d e)) H
def rNeP (K : Frag) : R2 := fun x y H Q => ∃ d e, Dp K H x d ∧ Dp K H y e ∧ d.plain = true ∧ e.plain = true ∧ d.depth ≤ 60 ∧ Q (.bl (!PyData.eqv d e)) H
theorem op_eqP (hu : X.A.units + 64 < cLine) : OpR X (compareOp .Eq) (rEqP X.K) := by
  intro pins s σ H x y v u Q I rx ry h
  obtain ⟨d, e, hd, he, pd, pe, dd, q⟩ := h
  obtain ⟨as, r1⟩ := hd.reads I d x v rx
  obtain ⟨bs, r2⟩ := he.reads I e y u ry
  have m : min d.depth e.depth ≤ d.depth := Nat.min_le_left _ _
  exact SeqAt.eq_plain r1 r2 pd pe (by omega) ⟨.bl _, H, I, rfl, q⟩
theorem op_neP (hu : X.A.units + 64 < cLine) : OpR X (compareOp .NotEq) (rNeP X.K) := by
  intro pins s σ H x y v u Q I rx ry h
  obtain ⟨d, e, hd, he, pd, pe, dd, q⟩ := h
  obtain ⟨as, r1⟩ := hd.reads I d x v rx
  obtain ⟨bs, r2⟩ := he.reads I e y u ry
  have m : min d.depth e.depth ≤ d.depth := Nat.min_le_left _ _
  exact SeqAt.ne_plain r1 r2 pd pe (by omega) ⟨.bl _, H, I, rfl, q⟩
/-- x in c, c a list or a tuple -/
def rInP (K : Frag) : R2 := fun x y H Q => ∃ d ds, (Dp K H y (.list ds) ∨ Dp K H y (.tuple ds)) ∧ Dp K H x d ∧ d.plain = true ∧ d.depth ≤ 60 ∧ PyData.plainAll ds = true ∧ Q (.bl (ds.any fun z => PyData.eqv z d)) H
def rNotInP (K : Frag) : R2 := fun x y H Q => ∃ d ds, (Dp K H y (.list ds) ∨ Dp K H y (.tuple ds)) ∧ Dp K H x d ∧ d.plain = true ∧ d.depth ≤ 60 ∧ PyData.plainAll ds = true ∧ Q (.bl (!ds.any fun z => PyData.eqv z d)) H
theorem op_inP (hu : X.A.units + 64 < cLine) : OpR X (compareOp .In) (rInP X.K) := by
  intro pins s σ H x y v u Q I rx ry h
  obtain ⟨d, ds, hc, hd, pd, dd, ps, q⟩ := h
  obtain ⟨as, r1⟩ := hd.reads I d x v rx
  have m : min (PyData.depthAll ds) d.depth ≤ d.depth := Nat.min_le_right _ _
  rcases hc with hc | hc
  · obtain ⟨bs, r2⟩ := hc.reads I _ y u ry
    exact SeqAt.in_list_data r2 r1 ps pd (by omega) ⟨.bl _, H, I, rfl, q⟩
  · obtain ⟨bs, r2⟩ := hc.reads I _ y u ry
    exact SeqAt.in_tuple_data r2 r1 ps pd (by omega) ⟨.bl _, H, I, rfl, q⟩
theorem op_notInP (hu : X.A.units + 64 < cLine) : OpR X (compareOp .NotIn) (rNotInP X.K) := by
  intro pins s σ H x y v u Q I rx ry h
  obtain ⟨d, ds, hc, hd, pd, dd, ps, q⟩ := h
  obtain ⟨as, r1⟩ := hd.reads I d x v rx
  have m : min (PyData.depthAll ds) d.depth ≤ d.depth := Nat.min_le_right _ _
  rcases hc with hc | hc
  · obtain ⟨bs, r2⟩ := hc.reads I _ y u ry
    exact SeqAt.notIn_list_data r2 r1 ps pd (by omega) ⟨.bl _, H, I, rfl, q⟩
  · obtain ⟨bs, r2⟩ := hc.reads I _ y u ry
    exact SeqAt.notIn_tuple_data r2 r1 ps pd (by omega) ⟨.bl _, H, I, rfl, q⟩
end
section
variable {c : Ct} {X : Cx}
/-- an order of ints and texts -/
abbrev rOrd (p : Int → Int → Bool) (q : List Nat → List Nat → Bool) : R2 := fun x y H Q => rI0 (fun i j => .bl (p i j)) x y H Q ∨ ∃ i j, x = .str i ∧ y = .str j ∧ Q (.bl (q i.cps.toList j.cps.toList)) H
theorem D_ord {p : Int → Int → Bool} {q : List Nat → List Nat → Bool} {f : D → D → Option Bool} (hi : ∀ i j, f (.int i) (.int j) = some (p i j)) (hs : ∀ a b, f (.str a) (.str b) = some (q a.cps.toList b.cps.toList))
    (hn : ∀ a b, (∀ i j, ¬ (a = .int i ∧ b = .int j)) → (∀ i j, ¬ (a = .str i ∧ b = .str j)) → f a b = none) : OpD c (rOrd p q) (boolRes f) := by
  intro F H d1 d2 x y res Q e h1 h2 hf
  have no : (∀ i j, ¬ (d1 = .int i ∧ d2 = .int j)) → (∀ i j, ¬ (d1 = .str i ∧ d2 = .str j)) → False := fun a b => by
    simp only [boolRes, hn d1 d2 a b] at hf
    cases hf
  cases d1 with
  | int i =>
    cases d2 with
    | int j =>
      simp only [boolRes, hi] at hf
      cases hf
      exact ⟨sv, fun k => .inl ⟨i, j, h1.int, h2.int, k.here e (.bl _)⟩⟩
    | _ => exact (no (by intro _ _ z; cases z.2) (by intro _ _ z; cases z.1)).elim
  | str i =>
    cases d2 with
    | str j =>
      simp only [boolRes, hs] at hf
      cases hf
      exact ⟨sv, fun k => .inr ⟨i, j, h1.str, h2.str, k.here e (.bl _)⟩⟩
    | _ => exact (no (by intro _ _ z; cases z.1) (by intro _ _ z; cases z.2)).elim
  | _ => exact (no (by intro _ _ z; cases z.1) (by intro _ _ z; cases z.1)).elim
theorem D_lt : OpD c (rOrd (fun i j => decide (i < j)) (fun a b => decide (a < b))) (boolRes fLt) := D_ord (fun _ _ => rfl) (fun _ _ => rfl) fun a b h1 h2 => by
  cases a <;> cases b <;> first | rfl | exact absurd ⟨rfl, rfl⟩ (h1 _ _) | exact absurd ⟨rfl, rfl⟩ (h2 _ _)
theorem D_le : OpD c (rOrd (fun i j => decide (i ≤ j)) (fun a b => !decide (b < a))) (boolRes fLe) := D_ord (fun _ _ => rfl) (fun _ _ => rfl) fun a b h1 h2 => by
  cases a <;> cases b <;> first | rfl | exact absurd ⟨rfl, rfl⟩ (h1 _ _) | exact absurd ⟨rfl, rfl⟩ (h2 _ _)
theorem D_gt : OpD c (rOrd (fun i j => decide (j < i)) (fun a b => decide (b < a))) (boolRes fGt) := D_ord (fun _ _ => rfl) (fun _ _ => rfl) fun a b h1 h2 => by
  cases a <;> cases b <;> first | rfl | exact absurd ⟨rfl, rfl⟩ (h1 _ _) | exact absurd ⟨rfl, rfl⟩ (h2 _ _)
theorem D_ge : OpD c (rOrd (fun i j => decide (j ≤ i)) (fun a b => !decide (a < b))) (boolRes fGe) := D_ord (fun _ _ => rfl) (fun _ _ => rfl) fun a b h1 h2 => by
  cases a <;> cases b <;> first | rfl | exact absurd ⟨rfl, rfl⟩ (h1 _ _) | exact absurd ⟨rfl, rfl⟩ (h2 _ _)
theorem o_lt : OpR X (compareOp .Lt) (rOrd (fun i j => decide (i < j)) (fun a b => decide (a < b))) := OpR.or op_lt op_lt_str
theorem o_gt : OpR X (compareOp .Gt) (rOrd (fun i j => decide (j < i)) (fun a b => decide (b < a))) := OpR.or op_gt op_gt_str
theorem o_le : OpR X (compareOp .LtE) (rOrd (fun i j => decide (i ≤ j)) (fun a b => !decide (b < a))) := OpR.or op_le op_le_str
theorem o_ge : OpR X (compareOp .GtE) (rOrd (fun i j => decide (j ≤ i)) (fun a b => !decide (a < b))) := OpR.or op_ge op_ge_str
end
end Pd
end
section
set_option Elab.async false
set_option linter.all false
set_option maxRecDepth 100000
set_option maxHeartbeats 4000000
namespace Pd
open PySem L2

/-! ### dicts as data -/
def toK : D → Option Key
  | .int i => some (.inl i)
  | .str s => some (.inr s)
  | _ => none
def toKs : List D → Option (List Key)
  | [] => some []
  | d :: ds => match toK d, toKs ds with
    | some k, some ks => some (k :: ks)
    | _, _ => none
def toT : D → Option (List Key)
  | .tuple ds => toKs ds
  | _ => none
/-- a key of that kind of dict -/
def keyOk (t : Bool) (k : D) : Bool := if t then (toT k).isSome else (toK k).isSome
def dLook (kvs : List (D × D)) (k : D) : Option D := (kvs.find? fun kv => PyData.eqv kv.1 k).map (·.2)
def dPut (kvs : List (D × D)) (k v : D) : List (D × D) := if (kvs.any fun kv => PyData.eqv kv.1 k) = true then kvs.map (fun kv => if PyData.eqv kv.1 k then (kv.1, v) else kv) else kvs ++ [(k, v)]
def dDrop (kvs : List (D × D)) (k : D) : List (D × D) := kvs.filter fun kv => !PyData.eqv kv.1 k
theorem toK_kD {d : D} {k : Key} (h : toK d = some k) : d = kD k := by
  cases d <;> cases h <;> rfl
theorem toKs_kD : ∀ {ds : List D} {ks : List Key}, toKs ds = some ks → ds = ks.map kD
  | [], _, h => by cases h; rfl
  | d :: ds, ks, h => by
    simp only [toKs] at h
    split at h
    · rename_i k ks' h1 h2
      cases h
      rw [List.map_cons, ← toK_kD h1, ← toKs_kD h2]
    · cases h
theorem toT_kD {d : D} {k : List Key} (h : toT d = some k) : d = tkD k := by
  cases d <;> first | (cases h; done) | skip
  unfold tkD
  rw [toKs_kD h]
theorem eqv_kD (a b : Key) : PyData.eqv (kD a) (kD b) = decide (a = b) := by
  cases a with
  | inl i =>
    cases b with
    | inl j => rw [key_ll]; simp [kD, PyData.eqv]
    | inr y => rw [key_lr]; simp [kD, PyData.eqv]
  | inr x =>
    cases b with
    | inl j => rw [key_rl]; simp [kD, PyData.eqv]
    | inr y =>
      rw [key_rr]
      simp only [kD, PyData.eqv]
      by_cases e : x = y
      · subst e; simp
      · rw [decide_eq_false e]; exact beq_eq_false_iff_ne.mpr e
theorem eqv_tkD (a b : List Key) : PyData.eqv (tkD a) (tkD b) = decide (a = b) := by
  have g : ∀ a b : List Key, PyData.eqvAll (a.map kD) (b.map kD) = decide (a = b) := by
    intro a
    induction a with
    | nil => intro b; cases b <;> simp [PyData.eqvAll]
    | cons x r ih =>
      intro b
      cases b with
      | nil => simp [PyData.eqvAll]
      | cons y q =>
        rw [List.map_cons, List.map_cons, PyData.eqvAll, ih, eqv_kD]
        by_cases e : x = y
        · subst e; simp
        · simp [e]
  unfold tkD
  rw [PyData.eqv, g]
section
variable {c : Ct} {F H : Hp}
inductive ORep (c : Ct) (F : Hp) : Option D → Option V → Prop
  | none : ORep c F none none
  | some {d : D} {v : V} : Rep c F d v → ORep c F (some d) (some v)
theorem RepK.look (k : Key) : ∀ {kvs : List (D × D)} {ws : List (Key × V)}, RepK c F kvs ws → ORep c F (dLook kvs (kD k)) (valV ws k)
  | _, _, .nil => .none
  | _, _, .cons (k := j) h r => by
    by_cases e : j = k
    · rw [valV_pos (p := (_, _)) e, dLook, List.find?_cons]
      simp only [eqv_kD, decide_eq_true e]
      exact .some h
    · rw [valV_neg (p := (_, _)) e, dLook, List.find?_cons]
      simp only [eqv_kD, decide_eq_false e]
      exact RepK.look k r
theorem RepT.look (k : List Key) : ∀ {kvs : List (D × D)} {ws : List (List Key × V)}, RepT c F kvs ws → ORep c F (dLook kvs (tkD k)) (valV ws k)
  | _, _, .nil => .none
  | _, _, .cons (k := j) h r => by
    by_cases e : j = k
    · rw [valV_pos (p := (_, _)) e, dLook, List.find?_cons]
      simp only [eqv_tkD, decide_eq_true e]
      exact .some h
    · rw [valV_neg (p := (_, _)) e, dLook, List.find?_cons]
      simp only [eqv_tkD, decide_eq_false e]
      exact RepT.look k r
theorem RepK.any (k : Key) : ∀ {kvs : List (D × D)} {ws : List (Key × V)}, RepK c F kvs ws → (kvs.any fun kv => PyData.eqv kv.1 (kD k)) = ws.any fun kv => decide (kv.1 = k)
  | _, _, .nil => rfl
  | _, _, .cons h r => by rw [List.any_cons, List.any_cons, RepK.any k r, eqv_kD]
theorem RepT.any (k : List Key) : ∀ {kvs : List (D × D)} {ws : List (List Key × V)}, RepT c F kvs ws → (kvs.any fun kv => PyData.eqv kv.1 (tkD k)) = ws.any fun kv => decide (kv.1 = k)
  | _, _, .nil => rfl
  | _, _, .cons h r => by rw [List.any_cons, List.any_cons, RepT.any k r, eqv_tkD]
theorem RepK.app : ∀ {kvs es : List (D × D)} {ws us : List (Key × V)}, RepK c F kvs ws → RepK c F es us → RepK c F (kvs ++ es) (ws ++ us)
  | _, _, _, _, .nil, s => s
  | _, _, _, _, .cons h r, s => .cons h (RepK.app r s)
theorem RepT.app : ∀ {kvs es : List (D × D)} {ws us : List (List Key × V)}, RepT c F kvs ws → RepT c F es us → RepT c F (kvs ++ es) (ws ++ us)
  | _, _, _, _, .nil, s => s
  | _, _, _, _, .cons h r, s => .cons h (RepT.app r s)
theorem RepK.put {k : Key} {d : D} {v : V} (h : Rep c F d v) {kvs : List (D × D)} {ws : List (Key × V)} (r : RepK c F kvs ws) : RepK c F (dPut kvs (kD k) d) (putK ws k v) := by
  have m : ∀ {kvs : List (D × D)} {ws : List (Key × V)}, RepK c F kvs ws → RepK c F (kvs.map fun kv => if PyData.eqv kv.1 (kD k) then (kv.1, d) else kv) (ws.map fun kv => if kv.1 = k then (kv.1, v) else kv) := by
    intro kvs
    induction kvs with
    | nil => intro ws r; cases r; exact .nil
    | cons x kvs ih =>
      intro ws r
      cases r with
      | @cons j e y _ _ h1 r1 =>
        rw [List.map_cons, List.map_cons, eqv_kD]
        by_cases q : j = k
        · rw [decide_eq_true q, if_pos rfl, if_pos q]; exact .cons h (ih r1)
        · rw [decide_eq_false q, if_neg Bool.false_ne_true, if_neg q]; exact .cons h1 (ih r1)
  unfold dPut putK
  rw [r.any k]
  split
  · exact m r
  · exact r.app (.cons h .nil)
theorem RepT.put {k : List Key} {d : D} {v : V} (h : Rep c F d v) {kvs : List (D × D)} {ws : List (List Key × V)} (r : RepT c F kvs ws) : RepT c F (dPut kvs (tkD k) d) (putK ws k v) := by
  have m : ∀ {kvs : List (D × D)} {ws : List (List Key × V)}, RepT c F kvs ws → RepT c F (kvs.map fun kv => if PyData.eqv kv.1 (tkD k) then (kv.1, d) else kv) (ws.map fun kv => if kv.1 = k then (kv.1, v) else kv) := by
    intro kvs
    induction kvs with
    | nil => intro ws r; cases r; exact .nil
    | cons x kvs ih =>
      intro ws r
      cases r with
      | @cons j e y _ _ h1 r1 =>
        rw [List.map_cons, List.map_cons, eqv_tkD]
        by_cases q : j = k
        · rw [decide_eq_true q, if_pos rfl, if_pos q]; exact .cons h (ih r1)
        · rw [decide_eq_false q, if_neg Bool.false_ne_true, if_neg q]; exact .cons h1 (ih r1)
  unfold dPut putK
  rw [r.any k]
  split
  · exact m r
  · exact r.app (.cons h .nil)
theorem RepK.drop (k : Key) : ∀ {kvs : List (D × D)} {ws : List (Key × V)}, RepK c F kvs ws → RepK c F (dDrop kvs (kD k)) (dropK ws k)
  | _, _, .nil => .nil
  | _, _, .cons (k := j) h r => by
    have ih := RepK.drop k r
    unfold dDrop dropK at ih ⊢
    rw [List.filter_cons, List.filter_cons, eqv_kD]
    by_cases q : j = k
    · rw [decide_eq_true q, if_neg (by simp), if_neg (by simp [q])]; exact ih
    · rw [decide_eq_false q, if_pos (by simp), if_pos (by simp [q])]; exact .cons h ih
theorem RepK.length : ∀ {kvs : List (D × D)} {ws : List (Key × V)}, RepK c F kvs ws → ws.length = kvs.length
  | _, _, .nil => rfl
  | _, _, .cons _ r => by rw [List.length_cons, List.length_cons, RepK.length r]
theorem RepT.length : ∀ {kvs : List (D × D)} {ws : List (List Key × V)}, RepT c F kvs ws → ws.length = kvs.length
  | _, _, .nil => rfl
  | _, _, .cons _ r => by rw [List.length_cons, List.length_cons, RepT.length r]
theorem Reps.keys : ∀ {ks : List Key} {vs : List V}, Reps c F (ks.map kD) vs → vs = ks.map kV
  | [], _, h => by cases h; rfl
  | k :: r, _, h => by
    cases h with
    | cons h1 h2 =>
      rw [Reps.keys h2]
      cases k with
      | inl i => cases (show Rep c F (.int i) _ from h1); rfl
      | inr i => cases (show Rep c F (.str i) _ from h1); rfl
theorem RdX.key {k : Key} {x : V} (h : RdX c F H (kD k) x) : x = kV k := by
  cases k with
  | inl i => exact RdX.int h
  | inr i => exact RdX.str h
/-- a tuple that is a key, where no written tuple is a value -/
theorem RdX.tkey (e : Ex F H) (hc : c.kt = false) {k : List Key} {x : V} (h : RdX c F H (tkD k) x) : ∃ b, x = .ref b ∧ H b = some (.tup (k.map kV)) := by
  cases h with
  | rep q =>
    cases q with
    | tup h r =>
      rcases h with h | h
      · rw [Reps.keys r] at h
        exact ⟨_, rfl, e.tp _ _ trivial h⟩
      · rw [hc] at h; cases h.1
  | own o => cases o
theorem RdX.dict {t : Bool} {kvs : List (D × D)} {x : V} (e : Ex F H) (h : RdX c F H (dct t kvs) x) :
    (∃ a ws, t = false ∧ x = .ref a ∧ Rd H a (.dK ws) ∧ RepK c F kvs ws) ∨ ∃ a ws, t = true ∧ x = .ref a ∧ Rd H a (.dT ws) ∧ RepT c F kvs ws := by
  cases h with
  | rep q =>
    cases q with
    | dK h r => exact .inl ⟨_, _, rfl, rfl, e.rd _ _ h, r⟩
    | dT h r => exact .inr ⟨_, _, rfl, rfl, e.rd _ _ h, r⟩
  | own o =>
    cases o with
    | dK h r => exact .inl ⟨_, _, rfl, rfl, .inl h, r⟩
    | dT h r => exact .inr ⟨_, _, rfl, rfl, .inl h, r⟩
/-- what the dict holds at the key -/
theorem dget_ok {t : Bool} {kvs : List (D × D)} {k : D} {x y : V} (e : Ex F H) (hc : t = true → c.kt = false) (hk : keyOk t k = true) (h : RdX c F H (dct t kvs) x) (hy : RdX c F H k y) : ∃ a o, x = .ref a ∧ DGet H a y o ∧ ORep c F (dLook kvs k) o := by
  rcases h.dict e with ⟨a, ws, rfl, rfl, r, q⟩ | ⟨a, ws, rfl, rfl, r, q⟩
  · obtain ⟨k', e'⟩ := Option.isSome_iff_exists.mp (show (toK k).isSome = true from hk)
    have := toK_kD e'
    subst this
    exact ⟨a, valV ws k', rfl, .inl ⟨ws, k', r, hy.key, rfl⟩, q.look k'⟩
  · obtain ⟨k', e'⟩ := Option.isSome_iff_exists.mp (show (toT k).isSome = true from hk)
    have := toT_kD e'
    subst this
    obtain ⟨b, rfl, hb⟩ := hy.tkey e (hc rfl)
    exact ⟨a, valV ws k', rfl, .inr ⟨ws, k', b, r, rfl, hb, rfl⟩, q.look k'⟩
end

/-- a list that is only read -/
def scrOf : D → Option (List D)
  | .dict [(.bool false, .list xs)] => some xs
  | _ => none
theorem scrOf_eq {d : D} {xs : List D} (h : scrOf d = some xs) : d = scrD xs := by
  unfold scrOf at h
  split at h
  · cases h; rfl
  · cases h
/-- a dict's kind and pairs -/
def asDct : D → Option (Bool × List (D × D))
  | .dict ((.none, .bool u) :: kvs) => some (u, kvs)
  | _ => none
theorem asDct_eq {d : D} {u : Bool} {kvs : List (D × D)} (h : asDct d = some (u, kvs)) : d = dct u kvs := by
  unfold asDct at h
  split at h
  · cases h; rfl
  · cases h
theorem asDct_dct (u : Bool) (kvs : List (D × D)) : asDct (dct u kvs) = some (u, kvs) := rfl

/-! ### in -/
def fIn (t : Bool) (a b : D) : Option Bool := match b with
  | .list xs => if fit 60 a && fitAll 60 xs then some (xs.any fun y => PyData.eqv y a) else none
  | .tuple xs => if fit 60 a && fitAll 60 xs then some (xs.any fun y => PyData.eqv y a) else none
  | .str t => match a with
    | .str s => some (!(Builtin.Str.occurrences t s 0 t.length 1).isEmpty)
    | _ => none
  | b => match asDct b with
    | some (u, kvs) => if keyOk u a && (t || !u) then some (dLook kvs a).isSome else none
    | none => none
def fNotIn (t : Bool) (a b : D) : Option Bool := (fIn t a b).map (!·)
section
variable {X : Cx} {c : Ct}
def rInDct (n : Bool) : R2 := fun x y H Q => ∃ a o, y = .ref a ∧ DGet H a x o ∧ Q (.bl (n ^^ o.isSome)) H
theorem op_inDct (hu : X.A.units + 1 < cLine) : OpR X (compareOp .In) (rInDct false) := by
  intro pins s σ H x y v u Q I rx ry h
  obtain ⟨a, o, rfl, g, q⟩ := h
  cases ry
  exact d_in hu I g rx fun s' I' => ⟨.bl _, H, I', rfl, by simpa using q⟩
theorem op_notInDct (hu : X.A.units + 1 < cLine) : OpR X (compareOp .NotIn) (rInDct true) := by
  intro pins s σ H x y v u Q I rx ry h
  obtain ⟨a, o, rfl, g, q⟩ := h
  cases ry
  exact d_notIn hu I g rx fun s' I' => ⟨.bl _, H, I', rfl, by simpa using q⟩
theorem ORep.some_eq {F : Hp} {a : Option D} {b : Option V} (h : ORep c F a b) : b.isSome = a.isSome := by cases h <;> rfl
abbrev rInA (K : Frag) : R2 := fun x y H Q => rInP K x y H Q ∨ ((∃ i j, x = .str i ∧ y = .str j ∧ Q (.bl (!(Builtin.Str.occurrences j i 0 j.length 1).isEmpty)) H) ∨ rInDct false x y H Q)
abbrev rNotInA (K : Frag) : R2 := fun x y H Q => rNotInP K x y H Q ∨ ((∃ i j, x = .str i ∧ y = .str j ∧ Q (.bl (!(!(Builtin.Str.occurrences j i 0 j.length 1).isEmpty))) H) ∨ rInDct true x y H Q)
theorem o_in (hu : X.A.units + 64 < cLine) : OpR X (compareOp .In) (rInA X.K) := OpR.or (op_inP hu) (OpR.or op_in_str (op_inDct (by omega)))
theorem o_notIn (hu : X.A.units + 64 < cLine) : OpR X (compareOp .NotIn) (rNotInA X.K) := OpR.or (op_notInP hu) (OpR.or op_notin_str (op_notInDct (by omega)))
/-- what «in» is worth, by the cases -/
theorem fIn_cases {t : Bool} (hc : t = true → c.kt = false) {F H : Hp} {d1 d2 : D} {x y : V} {b : Bool} (e : Ex F H) (h1 : RdX c F H d1 x) (h2 : RdX c F H d2 y) (hf : fIn t d1 d2 = some b) :
    (∃ ds, (Dp c.K H y (.list ds) ∨ Dp c.K H y (.tuple ds)) ∧ Dp c.K H x d1 ∧ d1.plain = true ∧ d1.depth ≤ 60 ∧ PyData.plainAll ds = true ∧ b = ds.any fun z => PyData.eqv z d1) ∨
    (∃ i j, x = .str i ∧ y = .str j ∧ b = !(Builtin.Str.occurrences j i 0 j.length 1).isEmpty) ∨ ∃ a o, y = .ref a ∧ DGet H a x o ∧ b = o.isSome := by
  have dc : ∀ {u kvs}, asDct d2 = some (u, kvs) → (if keyOk u d1 && (t || !u) then some (dLook kvs d1).isSome else none) = some b → ∃ a o, y = .ref a ∧ DGet H a x o ∧ b = o.isSome := by
    clear hf
    intro u kvs ha hf
    have := asDct_eq ha
    subst this
    split at hf
    · rename_i hm
      cases hf
      simp only [Bool.and_eq_true] at hm
      obtain ⟨a, o, e1, g, r⟩ := dget_ok e (fun z => by subst z; exact hc (by simpa using hm.2)) hm.1 h2 h1
      exact ⟨a, o, e1, g, r.some_eq.symm⟩
    · cases hf
  cases d2 with
  | list xs =>
    simp only [fIn] at hf
    split at hf
    · rename_i hm
      cases hf
      simp only [Bool.and_eq_true] at hm
      have q1 := fit_ok _ _ hm.1
      have q2 := fitAll_ok _ _ hm.2
      exact .inl ⟨xs, .inl (h2.dp e (by simp only [PyData.plain]; exact q2.1)), h1.dp e q1.1, q1.1, q1.2, q2.1, rfl⟩
    · cases hf
  | tuple xs =>
    simp only [fIn] at hf
    split at hf
    · rename_i hm
      cases hf
      simp only [Bool.and_eq_true] at hm
      have q1 := fit_ok _ _ hm.1
      have q2 := fitAll_ok _ _ hm.2
      exact .inl ⟨xs, .inr (h2.dp e (by simp only [PyData.plain]; exact q2.1)), h1.dp e q1.1, q1.1, q1.2, q2.1, rfl⟩
    · cases hf
  | str t =>
    cases d1 with
    | str s => cases hf; exact .inr (.inl ⟨s, t, h1.str, h2.str, rfl⟩)
    | _ => cases hf
  | dict ps =>
    simp only [fIn] at hf
    split at hf
    · rename_i u kvs ha
      exact .inr (.inr (dc ha hf))
    · cases hf
  | _ => cases hf
theorem D_in {t : Bool} (hc : t = true → c.kt = false) : OpD c (rInA c.K) (boolRes (fIn t)) := by
  intro F H d1 d2 x y res Q e h1 h2 hf
  unfold boolRes at hf
  cases hb : fIn t d1 d2 with
  | none => rw [hb] at hf; cases hf
  | some b =>
    rw [hb] at hf
    cases hf
    refine ⟨sv, fun k => ?_⟩
    rcases fIn_cases hc e h1 h2 hb with ⟨ds, a1, a2, a3, a4, a5, rfl⟩ | ⟨i, j, rfl, rfl, rfl⟩ | ⟨a, o, rfl, g, rfl⟩
    · exact .inl ⟨d1, ds, a1, a2, a3, a4, a5, k.here e (.bl _)⟩
    · exact .inr (.inl ⟨i, j, rfl, rfl, k.here e (.bl _)⟩)
    · exact .inr (.inr ⟨a, o, rfl, g, by simpa using k.here e (.bl _)⟩)
theorem D_notIn {t : Bool} (hc : t = true → c.kt = false) : OpD c (rNotInA c.K) (boolRes (fNotIn t)) := by
  intro F H d1 d2 x y res Q e h1 h2 hf
  unfold boolRes fNotIn at hf
  cases hb : fIn t d1 d2 with
  | none => rw [hb] at hf; cases hf
  | some b =>
    rw [hb] at hf
    cases hf
    refine ⟨sv, fun k => ?_⟩
    rcases fIn_cases hc e h1 h2 hb with ⟨ds, a1, a2, a3, a4, a5, rfl⟩ | ⟨i, j, rfl, rfl, rfl⟩ | ⟨a, o, rfl, g, rfl⟩
    · exact .inl ⟨d1, ds, a1, a2, a3, a4, a5, k.here e (.bl _)⟩
    · exact .inr (.inl ⟨i, j, rfl, rfl, k.here e (.bl _)⟩)
    · exact .inr (.inr ⟨a, o, rfl, g, by simpa using k.here e (.bl _)⟩)
theorem D_eq : OpD c (rEqP c.K) (boolRes fEq) := by
  intro F H d1 d2 x y res Q e h1 h2 hf
  simp only [boolRes, fEq] at hf
  split at hf
  · rename_i hm
    cases hf
    simp only [Bool.and_eq_true] at hm
    have q1 := fit_ok _ _ hm.1
    have q2 := fit_ok _ _ hm.2
    exact ⟨sv, fun k => ⟨d1, d2, h1.dp e q1.1, h2.dp e q2.1, q1.1, q2.1, q1.2, k.here e (.bl _)⟩⟩
  · cases hf
theorem D_ne : OpD c (rNeP c.K) (boolRes fNe) := by
  intro F H d1 d2 x y res Q e h1 h2 hf
  simp only [boolRes, fNe] at hf
  split at hf
  · rename_i hm
    cases hf
    simp only [Bool.and_eq_true] at hm
    have q1 := fit_ok _ _ hm.1
    have q2 := fit_ok _ _ hm.2
    exact ⟨sv, fun k => ⟨d1, d2, h1.dp e q1.1, h2.dp e q2.1, q1.1, q2.1, q1.2, k.here e (.bl _)⟩⟩
  · cases hf
/-- is -/
abbrev rIsA : R2 := fun x y H Q => (y = .non ∧ Q (.bl (decide (x = .non))) H) ∨ rIsB x y H Q
abbrev rIsNotA : R2 := fun x y H Q => (y = .non ∧ Q (.bl (!decide (x = .non))) H) ∨ rNotB x y H Q
theorem o_is : OpR X (compareOp .Is) rIsA := OpR.or op_isN op_isBl
theorem o_isNot : OpR X (compareOp .IsNot) rIsNotA := OpR.or op_notN op_notBl
theorem RdX.non_iff {F H : Hp} {d : D} {x : V} (h : RdX c F H d x) : decide (x = .non) = isNone d := by
  cases h with
  | rep q => cases q <;> rfl
  | own o => cases o <;> rfl
theorem D_is : OpD c rIsA (boolRes fIsN) := by
  intro F H d1 d2 x y res Q e h1 h2 hf
  cases d2 with
  | none =>
    simp only [boolRes, fIsN, Option.map_some] at hf
    cases hf
    refine ⟨sv, fun k => .inl ⟨h2.non, ?_⟩⟩
    rw [h1.non_iff]
    exact k.here e (.bl _)
  | bool b =>
    cases d1 <;> simp only [boolRes, fIsN, Option.map_some] at hf <;> cases hf
    refine ⟨sv, fun k => .inr ⟨_, b, h1.bool, h2.bool, ?_⟩⟩
    rw [← Bool.beq_eq_decide_eq]
    exact k.here e (.bl _)
  | _ => cases hf
theorem D_isNot : OpD c rIsNotA (boolRes fNotN) := by
  intro F H d1 d2 x y res Q e h1 h2 hf
  cases d2 with
  | none =>
    simp only [boolRes, fNotN, fIsN, Option.map_some] at hf
    cases hf
    refine ⟨sv, fun k => .inl ⟨h2.non, ?_⟩⟩
    rw [h1.non_iff]
    exact k.here e (.bl _)
  | bool b =>
    cases d1 <;> simp only [boolRes, fNotN, fIsN, Option.map_some] at hf <;> cases hf
    refine ⟨sv, fun k => .inr ⟨_, b, h1.bool, h2.bool, ?_⟩⟩
    rw [← Bool.beq_eq_decide_eq]
    exact k.here e (.bl _)
  | _ => cases hf
end
end Pd
end
section
set_option Elab.async false
set_option linter.all false
set_option maxRecDepth 100000
set_option maxHeartbeats 4000000
namespace Pd
open PySem L2

section
variable {X : Cx} {B : Bs} {W : WX} {x y z : Expr} {a b d : Ev} {pos p2 : Pos}
/-! ### a op b op c -/
def eChain (f g : D → D → Option Bool) (a b d : Ev) : EvT := fun ρ => (a ρ).bdT fun r1 ρ1 => (b ρ1).bdT fun r2 ρ2 => match look ρ2 r1, look ρ2 r2 with
  | some d1, some d2 => match f d1 d2 with
    | some true => (d ρ2).bdT fun r3 ρ3 => match look ρ3 r2, look ρ3 r3 with
      | some e2, some d3 => match g e2 d3 with
        | some k => .ok k ρ3
        | none => .bad
      | _, _ => .bad
    | some false => .ok false ρ2
    | none => .bad
  | _, _ => .bad
theorem chain_ok {r r' : R2} {f g : D → D → Option Bool} (hf : OpD B.c r (boolRes f)) (hg : OpD B.c r' (boolRes g)) (σ : L2.St) (H : Hp) (Q : VK) {R : Bool → Hp → Prop}
    (hR : ∀ k H', R k H' → Q (.bl k) H') (h : tT B W (eChain f g a b d) σ H R) : tChain r r' (tE B W a) (tE B W b) (tE B W d) σ H Q := by
  obtain ⟨F, ρ, S, h⟩ := h
  refine bdT_ok S h fun r1 ρ1 F1 H1 x e1 S1 R1 h1 => ?_
  obtain ⟨F1', e1', S1', R1'⟩ := R1.hold S1
  refine bdT_ok S1' (h1.mono e1') fun r2 ρ2 F2 H2 y e2 S2 R2 h2 => ?_
  obtain ⟨F2', e2', S2', R2'⟩ := R2.hold S2
  have R1'' : ResOk B F2' σ H2 ρ2 r1.hold x := R1'.move hold_ne (e2.trans e2')
  have h2 := h2.mono e2'
  cases l1 : look ρ2 r1 with
  | none => simp only [l1] at h2; exact h2.elim
  | some d1 =>
    cases l2 : look ρ2 r2 with
    | none => simp only [l1, l2] at h2; exact h2.elim
    | some d2 =>
      simp only [l1, l2] at h2
      cases l3 : f d1 d2 with
      | none => rw [l3] at h2; exact h2.elim
      | some k =>
        rw [l3] at h2
        obtain ⟨_, kk⟩ := hf F2' H2 d1 d2 x y (.v (.bool k)) _ S2'.ex (R1''.rd S2' (by rw [look_hold]; exact l1)) (R2'.rd S2' (by rw [look_hold]; exact l2)) (by unfold boolRes; rw [l3]; rfl)
        refine kk fun F3 H3 w g3 q => ?_
        cases q
        refine ⟨k, rfl, ?_⟩
        have S3 := S2'.grow g3
        have h3 := h2.mono g3.f
        have R2'' : ResOk B F3 σ H3 ρ2 r2.hold y := R2'.move hold_ne g3.f
        cases k with
        | false => rw [if_neg Bool.false_ne_true]; exact hR _ _ (h3 F3 H3 (Ex.refl _) S3)
        | true =>
          rw [if_pos rfl]
          refine bdT_ok S3 h3 fun r3 ρ4 F4 H4 w e4 S4 R4 h4 => ?_
          have R2x : ResOk B F4 σ H4 ρ4 r2.hold y := R2''.move hold_ne e4
          cases m1 : look ρ4 r2 with
          | none => simp only [m1] at h4; exact h4.elim
          | some e2 =>
            cases m2 : look ρ4 r3 with
            | none => simp only [m1, m2] at h4; exact h4.elim
            | some d3 =>
              simp only [m1, m2] at h4
              cases m3 : g e2 d3 with
              | none => rw [m3] at h4; exact h4.elim
              | some j =>
                rw [m3] at h4
                obtain ⟨_, kk⟩ := hg F4 H4 e2 d3 y w (.v (.bool j)) Q S4.ex (R2x.rd S4 (by rw [look_hold]; exact m1)) (R4.rd S4 m2) (by unfold boolRes; rw [m3]; rfl)
                refine kk fun F5 H5 w g5 q => ?_
                cases q
                exact hR _ _ (h4 F5 H5 g5.f (S4.grow g5))
theorem t_chain {op op' : CmpOp} {r r' : R2} {f g : D → D → Option Bool} (ho : OpR X (compareOp op) r) (ho' : OpR X (compareOp op') r') (hf : OpD B.c r (boolRes f)) (hg : OpD B.c r' (boolRes g))
    (ha : PED X B W x a) (hb : PED X B W y b) (hd : PED X B W z d) (hm : lastMarks [op, op'] [y, z] = false) : PTD X B W (.Compare x [op, op'] [y, z] pos) (eChain f g a b d) :=
  pt_wk (pt_chain ho ho' ha hb hd hm) fun σ H Q h => chain_ok hf hg σ H _ (fun k H' q => ⟨k, rfl, q⟩) h
theorem d_chain {op op' : CmpOp} {r r' : R2} {f g : D → D → Option Bool} (ho : OpR X (compareOp op) r) (ho' : OpR X (compareOp op') r') (hf : OpD B.c r (boolRes f)) (hg : OpD B.c r' (boolRes g))
    (ha : PED X B W x a) (hb : PED X B W y b) (hd : PED X B W z d) (hm : lastMarks [op, op'] [y, z] = false) : PED X B W (.Compare x [op, op'] [y, z] pos) (eT (eChain f g a b d)) :=
  pe_wk (pe_chain ho ho' ha hb hd hm) fun σ H Q ⟨F, ρ, S, h⟩ => by
    refine chain_ok hf hg σ H Q (R := fun k H' => Q (.bl k) H') (fun _ _ q => q) ⟨F, ρ, S, ?_⟩
    unfold eT at h
    cases e : eChain f g a b d ρ with
    | ok k ρ' => rw [e] at h; exact fun F' H' e' S' => h F' H' _ e' S' (.bl k)
    | ex c ρ' => rw [e] at h; exact h
    | bad => rw [e] at h; exact h

/-! ### one operand -/
def e1 (f : D → Option Res) (a : Ev) : Ev := fun ρ => (a ρ).bd fun r1 ρ1 => match look ρ1 r1 with
  | some d1 => retOp ρ1 (f d1)
  | _ => .bad
def OpD1 (c : Ct) (r : V → Hp → VK → Prop) (f : D → Option Res) : Prop := ∀ F H d1 x res Q, Ex F H → RdX c F H d1 x → f d1 = some res → (∀ i, res ≠ .s i) ∧ (NewOk c F H Q res → r x H Q)
theorem op1 {r : V → Hp → VK → Prop} {f : D → Option Res} (hf : OpD1 B.c r f) (σ : L2.St) (H : Hp) (Q : VK) (h : tE B W (e1 f a) σ H Q) : tUn r (tE B W a) σ H Q := by
  obtain ⟨F, ρ, S, h⟩ := h
  refine bd_ok S h fun r1 ρ1 F1 H1 x e1 S1 R1 h1 => ?_
  cases l1 : look ρ1 r1 with
  | none => simp only [l1] at h1; exact h1.elim
  | some d1 =>
    simp only [l1] at h1
    cases l3 : f d1 with
    | none => rw [l3] at h1; exact h1.elim
    | some res =>
      rw [l3] at h1
      obtain ⟨ns, k⟩ := hf F1 H1 d1 x res Q S1.ex (R1.rd S1 l1) l3
      exact k (newOk S1 h1 ns)
def fNeg : D → Option Res
  | .int i => some (.v (.int (-i)))
  | _ => none
theorem D_neg {c : Ct} : OpD1 c (rU fun i => .int (-i)) fNeg := by
  intro F H d1 x res Q e h1 hf
  cases d1 <;> cases hf
  exact ⟨sv, fun k => ⟨_, h1.int, k.here e (.int _)⟩⟩
theorem d_neg (ha : PED X B W x a) : PED X B W (.UnaryOp .USub x pos) (e1 fNeg a) := pe_wk (pe_un un_neg ha) (op1 D_neg)

/-! ### a[i] -/
noncomputable def fIx (t : Bool) (a b : D) : Option Res := match a with
  | .list xs => match b with
    | .int i => (atI xs i).map .v
    | _ => none
  | .tuple xs => match b with
    | .int i => (atI xs i).map .v
    | _ => none
  | .str s => match b with
    | .int i => if lineOk s.length then (atI s.cps.toList i).map fun c => .v (.str ⟨#[c]⟩) else none
    | _ => none
  | a => match scrOf a with
    | some xs => match b with
      | .int i => (atI xs i).map .v
      | _ => none
    | none => match asDct a with
      | some (u, kvs) => if keyOk u b && (t || !u) then (dLook kvs b).map .v else none
      | none => none
def rIxDct : R2 := fun x y H Q => ∃ a v, x = .ref a ∧ DGet H a y (some v) ∧ Q v H
open PySem.Spec PyProof.Rows in
theorem ix_dct (hu : X.A.units + 1 < cLine) : IxR X rIxDct := by
  intro value slice pins s σ H x y v u Q I rx ry h hs
  obtain ⟨p, r, rfl, g, q⟩ := h
  obtain rfl : v = Value.ref p := rx
  exact tail_any (dict_typeIs I g) slot_dict_getitem.lookup (d_getItem hu I g ry fun w' s' I' rw' => ⟨r, H, I', rw', q⟩) hs
abbrev rIxA (K : Frag) : R2 := fun x y H Q => rIx K x y H Q ∨ rIxDct x y H Q
theorem ix_all (hu : X.A.units + 64 < cLine) : IxR X (rIxA X.K) := ix_seq.or (ix_dct (by omega))
theorem atI_reps {c : Ct} {F : Hp} {ds : List D} {vs : List V} {i : Int} {d : D} (r : Reps c F ds vs) (h : atI ds i = some d) : ∃ v, atI vs i = some v ∧ Rep c F d v := by
  unfold atI at h ⊢
  rw [r.length]
  cases e : ixN ds.length i with
  | none => rw [e] at h; cases h
  | some j =>
    rw [e] at h
    exact r.getD h
theorem D_ix {c : Ct} {t : Bool} (hc : t = true → c.kt = false) : OpD c (rIxA c.K) (fIx t) := by
  intro F H d1 d2 x y res Q e h1 h2 hf
  cases d1 with
  | list xs =>
    cases d2 with
    | int i =>
      simp only [fIx] at hf
      cases hh : atI xs i with
      | none => rw [hh] at hf; cases hf
      | some d =>
        rw [hh] at hf
        cases hf
        obtain ⟨a, vs, rfl, r, q⟩ := h1.list e
        obtain ⟨v, hv, rv⟩ := atI_reps q hh
        exact ⟨sv, fun k => .inl (.inl ⟨a, vs, i, v, rfl, h2.int, .inl r, hv, k.here e rv⟩)⟩
    | _ => cases hf
  | tuple xs =>
    cases d2 with
    | int i =>
      simp only [fIx] at hf
      cases hh : atI xs i with
      | none => rw [hh] at hf; cases hf
      | some d =>
        rw [hh] at hf
        cases hf
        obtain ⟨a, vs, rfl, r, q, _⟩ := h1.tuple e
        obtain ⟨v, hv, rv⟩ := atI_reps q hh
        exact ⟨sv, fun k => .inl (.inr (.inl ⟨a, vs, i, v, rfl, h2.int, r, hv, k.here e rv⟩))⟩
    | _ => cases hf
  | str s =>
    cases d2 with
    | int i =>
      simp only [fIx] at hf
      split at hf
      · rename_i hl
        cases hh : atI s.cps.toList i with
        | none => rw [hh] at hf; cases hf
        | some d =>
          rw [hh] at hf
          cases hf
          exact ⟨sv, fun k => .inl (.inr (.inr ⟨s, i, d, h1.str, h2.int, lineOk_le hl, hh, k.here e (.str _)⟩))⟩
      · cases hf
    | _ => cases hf
  | dict ps =>
    simp only [fIx] at hf
    split at hf
    · rename_i xs ha
      rw [scrOf_eq ha] at h1
      cases d2 with
      | int i =>
        simp only at hf
        cases hh : atI xs i with
        | none => rw [hh] at hf; cases hf
        | some d =>
          rw [hh] at hf
          cases hf
          obtain ⟨a, vs, rfl, r, q⟩ := RdX.scr e h1
          obtain ⟨v, hv, rv⟩ := atI_reps q hh
          exact ⟨sv, fun k => .inl (.inl ⟨a, vs, i, v, rfl, h2.int, r, hv, k.here e rv⟩)⟩
      | _ => cases hf
    split at hf
    · rename_i u kvs ha
      have := asDct_eq ha
      rw [this] at h1
      split at hf
      · rename_i hm
        simp only [Bool.and_eq_true] at hm
        obtain ⟨p, o, e1, g, r⟩ := dget_ok e (fun z => by subst z; exact hc (by simpa using hm.2)) hm.1 h1 h2
        cases hh : dLook kvs d2 with
        | none => rw [hh] at hf; cases hf
        | some d =>
          rw [hh] at hf r
          cases hf
          cases r with
          | some rv => exact ⟨sv, fun k => .inr ⟨p, _, e1, g, k.here e rv⟩⟩
      · cases hf
    · cases hf
  | _ => cases hf
theorem d_ix {t : Bool} (hK : B.c.K = X.K) (hc : t = true → B.c.kt = false) (hu : X.A.units + 64 < cLine) (ha : PED X B W x a) (hb : PED X B W y b) (hs : PlainIx y) : PED X B W (.Subscript x y pos) (eOp (fIx t) a b) :=
  pe_wk (pe_ix (ix_all hu) ha hb hs) (by rw [← hK]; exact op2 (D_ix hc))

/-! ### a[lo:hi] -/
def cutD (xs : List D) (lo hi : Option Int) : List D := (xs.drop (HT.sIx xs.length 0 lo)).take (HT.sIx xs.length xs.length hi - HT.sIx xs.length 0 lo)
theorem Reps.cut {c : Ct} {F : Hp} {ds : List D} {vs : List V} (r : Reps c F ds vs) (lo hi : Option Int) : Reps c F (cutD ds lo hi) (cutV vs lo hi) := by
  unfold cutD cutV
  rw [r.length]
  exact (r.drop _).take _
noncomputable def fSl (a : D) (lo hi : Option Int) : Option Res := match a with
  | .list xs => some (.f (.list (cutD xs lo hi)))
  | .tuple xs => some (.v (.tuple (cutD xs lo hi)))
  | .str s => if lineOk s.length then some (.v (.str (cutS s lo hi))) else none
  | a => (scrOf a).map fun xs => .f (.list (cutD xs lo hi))
/-- a part of a slice: left out, or an int -/
inductive OutP where
  | ok (o : Option Int) (ρ : Env) | ex (c : String) (ρ : Env) | bad
abbrev EvP := Env → OutP
def pNo : EvP := fun ρ => .ok none ρ
def pAt (a : Ev) : EvP := fun ρ => match a ρ with
  | .ok r ρ1 => match look ρ1 r with
    | some (.int i) => .ok (some i) ρ1
    | _ => .bad
  | .ex c ρ1 => .ex c ρ1
  | .bad => .bad
def OutP.bd : OutP → (Option Int → Env → Out) → Out
  | .ok r ρ, k => k r ρ
  | .ex c ρ, _ => .ex c ρ
  | .bad, _ => .bad
def tP (B : Bs) (W : WX) (e : EvP) : TO := fun σ H Q => ∃ F ρ, St B F σ H ρ ∧ match e ρ with
  | .ok o ρ' => ∀ F' H', Ex F F' → St B F' σ H' ρ' → Q o H'
  | .ex c ρ' => ∀ F' H', Ex F F' → St B F' σ H' ρ' → W (.ref (B.ec c)) none σ H'
  | .bad => False
theorem po_wk {e : Option Expr} {t t' : TO} (h : PO X e t) (k : ∀ σ H Q, t' σ H Q → t σ H Q) : PO X e t' := ⟨fun pins s σ H Q I q => h.run pins s σ H Q I (k σ H Q q)⟩
theorem p_no : PO X none (tP B W pNo) := po_wk po_none fun σ H Q ⟨F, ρ, S, h⟩ => h F H (Ex.refl F) S
theorem p_at (ha : PED X B W x a) : PO X (some x) (tP B W (pAt a)) := po_wk (po_some ha) fun σ H Q ⟨F, ρ, S, h⟩ => by
  refine ⟨F, ρ, S, ?_⟩
  unfold pAt at h
  cases e : a ρ with
  | ok r ρ1 =>
    rw [e] at h
    intro F1 H1 x e1 S1 R1
    cases l : look ρ1 r with
    | none => simp only [l] at h
    | some d =>
      simp only [l] at h
      cases d with
      | int i => exact ⟨i, (R1.rd S1 l).int, h F1 H1 e1 S1⟩
      | _ => exact h.elim
  | ex c ρ1 => rw [e] at h; exact h
  | bad => rw [e] at h; exact h
theorem pbd_ok {B : Bs} {W : WX} {F H : Hp} {σ : L2.St} {ρ : Env} {Q : VK} {a : EvP} {k : Option Int → Env → Out} {R : Option Int → Hp → Prop} (S : St B F σ H ρ) (h : OutOk B W F σ Q ((a ρ).bd k))
    (step : ∀ r ρ1 F1 H1, Ex F F1 → St B F1 σ H1 ρ1 → OutOk B W F1 σ Q (k r ρ1) → R r H1) : tP B W a σ H R := by
  refine ⟨F, ρ, S, ?_⟩
  cases e : a ρ with
  | ok r ρ1 => rw [e] at h; exact fun F1 H1 e1 S1 => step r ρ1 F1 H1 e1 S1 (OutOk.mono e1 h)
  | ex c ρ1 => rw [e] at h; exact h
  | bad => rw [e] at h; exact h
noncomputable def eSl (a : Ev) (lo hi : EvP) : Ev := fun ρ => (a ρ).bd fun r ρ1 => (lo ρ1).bd fun l ρ2 => (hi ρ2).bd fun u ρ3 => match look ρ3 r with
  | some d => retOp ρ3 (fSl d l u)
  | none => .bad
abbrev rSlAll (K : Frag) : V → Option Int → Option Int → Hp → VK → Prop := fun x lo hi H Q => rSlL K x lo hi H Q ∨ (rSlA K x lo hi H Q ∨ rSlS x lo hi H Q)
theorem sl_all : SlR X (rSlAll X.K) := SlR.or sl_list (SlR.or sl_tupA sl_str)
theorem D_sl {c : Ct} {F H : Hp} {d : D} {x : V} {lo hi : Option Int} {res : Res} {Q : VK} (e : Ex F H) (h1 : RdX c F H d x) (hf : fSl d lo hi = some res) : (∀ i, res ≠ .s i) ∧ (NewOk c F H Q res → rSlAll c.K x lo hi H Q) := by
  cases d with
  | list xs =>
    cases hf
    obtain ⟨a, vs, rfl, r, q⟩ := h1.list e
    exact ⟨sf, fun k => .inl ⟨a, vs, rfl, .inl r, fun p hp => k.lst e (q.cut lo hi) hp⟩⟩
  | tuple xs =>
    cases hf
    obtain ⟨a, vs, rfl, r, q, t⟩ := h1.tuple e
    refine ⟨sv, fun k => .inr (.inl ⟨a, vs, rfl, r, fun hw => ?_, fun _ p hp => k.tup e (q.cut lo hi) hp⟩)⟩
    have e2 : cutD xs lo hi = xs := by
      unfold cutD
      rw [q.length] at hw
      rw [hw.1, hw.2, List.drop_zero, Nat.sub_zero, List.take_length]
    rw [e2] at k
    exact k.here e (.tup t q)
  | str s =>
    simp only [fSl] at hf
    split at hf
    · rename_i hl
      cases hf
      exact ⟨sv, fun k => .inr (.inr ⟨s, h1.str, lineOk_le hl, k.here e (.str _)⟩)⟩
    · cases hf
  | dict ps =>
    simp only [fSl, Option.map_eq_some_iff] at hf
    obtain ⟨xs, ha, rfl⟩ := hf
    rw [scrOf_eq ha] at h1
    obtain ⟨a, vs, rfl, r, q⟩ := RdX.scr e h1
    exact ⟨sf, fun k => .inl ⟨a, vs, rfl, r, fun p hp => k.lst e (q.cut lo hi) hp⟩⟩
  | none => simp [fSl, scrOf] at hf
  | bool _ => simp [fSl, scrOf] at hf
  | int _ => simp [fSl, scrOf] at hf
theorem d_sl {lo hi : Option Expr} {l u : EvP} (hK : B.c.K = X.K) (ha : PED X B W x a) (hl : PO X lo (tP B W l)) (hu : PO X hi (tP B W u)) : PED X B W (.Subscript x (.Slice lo hi none p2) pos) (eSl a l u) :=
  pe_wk (pe_slice sl_all ha hl hu) fun σ H Q ⟨F, ρ, S, h⟩ => by
    refine bd_ok S h fun r1 ρ1 F1 H1 x e1 S1 R1 h1 => ?_
    obtain ⟨F1', e1', S1', R1'⟩ := R1.hold S1
    refine pbd_ok S1' (h1.mono e1') fun o ρ2 F2 H2 e2 S2 h2 => pbd_ok S2 h2 fun o' ρ3 F3 H3 e3 S3 h3 => ?_
    have R : ResOk B F3 σ H3 ρ3 r1.hold x := R1'.move hold_ne (e2.trans e3)
    cases l1 : look ρ3 r1 with
    | none => simp only [l1] at h3; exact h3.elim
    | some d =>
      simp only [l1] at h3
      cases l3 : fSl d o o' with
      | none => rw [l3] at h3; exact h3.elim
      | some res =>
        rw [l3] at h3
        obtain ⟨ns, k⟩ := D_sl (Q := Q) S3.ex (R.rd S3 (by rw [look_hold]; exact l1)) l3
        rw [← hK]
        exact k (newOk S3 h3 ns)
/-- a[::-1] of a list, a tuple -/
def fRev : D → Option Res
  | .list xs => some (.f (.list xs.reverse))
  | .tuple xs => some (.v (.tuple xs.reverse))
  | _ => none
theorem d_rev {k : Nat} {q1 q2 q3 : Pos} (hK : B.c.K = X.K) (ha : PED X B W x a) : PED X B W (.Subscript x (.Slice none none (some (.UnaryOp .USub (.Constant (.int 1) k q1) q2)) q3) pos) (e1 fRev a) :=
  pe_wk (pe_revA ha) fun σ H Q h => op1 (r := fun x H1 Q => (∃ a xs, x = .ref a ∧ SqL X.K H1 a xs ∧ ∀ p, H1 p = none → Q (.ref p) (upd H1 p (.lst xs.reverse))) ∨ (∃ a xs, x = .ref a ∧ SqT X.K H1 a xs ∧ ∀ p, H1 p = none → Q (.ref p) (upd H1 p (.tup xs.reverse)))) (by
    intro F H d1 x res Q e h1 hf
    cases d1 <;> cases hf
    · obtain ⟨a, vs, rfl, r, q⟩ := h1.list e
      exact ⟨sf, fun k => .inl ⟨a, vs, rfl, .inl r, fun p hp => k.lst e q.rev hp⟩⟩
    · obtain ⟨a, vs, rfl, r, q, _⟩ := h1.tuple e
      exact ⟨sv, fun k => .inr ⟨a, vs, rfl, by rw [← hK]; exact r, fun p hp => k.tup e q.rev hp⟩⟩) σ H Q h
end
end Pd
end
section
set_option Elab.async false
set_option linter.all false
set_option maxRecDepth 100000
set_option maxHeartbeats 4000000
namespace Pd
open PySem L2

/-! ### arguments -/
def aNil : EvA := fun ρ => .ok [] ρ
def aCons (a : Ev) (t : EvA) : EvA := fun ρ => (a ρ).bdA fun r1 ρ1 => (t ρ1).bd fun rs ρ2 => .ok (r1.hold :: rs) ρ2
def looks (ρ : Env) : List Res → Option (List D)
  | [] => some []
  | r :: rs => match look ρ r, looks ρ rs with
    | some d, some ds => some (d :: ds)
    | _, _ => none
/-- the own objects among them are made values -/
def frzR (ρ : Env) : Res → Option (D × Env)
  | .v d => some (d, ρ)
  | .f d => some (d, ρ)
  | .s i => match ρ[i]? with
    | some (.o d) => some (d, ρ.set i (.v d))
    | some (.v d) => some (d, ρ)
    | _ => none
def frzs (ρ : Env) : List Res → Option (List D × Env)
  | [] => some ([], ρ)
  | r :: rs => match frzR ρ r with
    | some (d, ρ1) => match frzs ρ1 rs with
      | some (ds, ρ2) => some (d :: ds, ρ2)
      | none => none
    | none => none
section
variable {B : Bs} {W : WX} {F F1 H : Hp} {σ : L2.St} {ρ : Env} {Q : VK}
theorem frzR_ok {r : Res} {x : V} {d : D} {ρ' : Env} (S : St B F σ H ρ) (R : ResOk B F σ H ρ r x) (h : frzR ρ r = some (d, ρ')) : ∃ F', Ex F F' ∧ St B F' σ H ρ' ∧ Rep B.c F' d x := by
  cases r with
  | v d' => cases h; exact ⟨F, Ex.refl F, S, R⟩
  | f d' =>
    cases h
    obtain ⟨p, rfl, hp, h0, ho, hs⟩ := R
    obtain ⟨o, e, r⟩ := ho.froze hp
    exact ⟨upd F p o, Ex.new hp, S.freezeAt hp h0 e hs, r⟩
  | s i =>
    have h1 : σ[i]? = some (some x) := R
    simp only [frzR] at h
    cases e : ρ[i]? with
    | none => rw [e] at h; cases h
    | some s =>
      have q := S.sl i s _ e h1
      rw [e] at h
      cases s with
      | u => cases h
      | e _ => cases h
      | b _ => cases h
      | v d' =>
        cases h
        obtain ⟨v, e1, e2⟩ := q
        cases e1
        exact ⟨F, Ex.refl F, S, e2⟩
      | o d' =>
        cases h
        obtain ⟨p, e1, hp, h0, ho⟩ := q
        cases e1
        obtain ⟨o, e2, r⟩ := ho.froze hp
        have S1 : St B F σ H (ρ.set i .u) := S.setSl i .u rfl fun _ _ => trivial
        have out : ∀ (j : Nat) (t : Sl), (ρ.set i .u)[j]? = some t → t.mine ≠ none → σ[j]? ≠ some (some (.ref p)) := fun j t h1' h2 h3 => by
          by_cases ij : i = j
          · subst ij
            rw [List.getElem?_set_self (List.getElem?_eq_some_iff.mp e).1] at h1'
            cases h1'
            exact h2 rfl
          · rw [List.getElem?_set_ne ij] at h1'
            exact ij (S.sep i j _ _ p e h1' (by intro z; cases z) h2 h1 h3)
        have S2 := S1.freezeAt hp h0 e2 out
        have S3 := S2.setSl i (.v d) rfl fun y hy => by
          rw [h1] at hy
          cases hy
          exact ⟨_, rfl, r⟩
        rw [List.set_set] at S3
        exact ⟨upd F p o, Ex.new hp, S3, r⟩
theorem frzs_ok : ∀ {rs : List Res} {xs : List V} {ds : List D} {F : Hp} {ρ ρ' : Env}, St B F σ H ρ → RessOk B F σ H ρ rs xs → frzs ρ rs = some (ds, ρ') → ∃ F', Ex F F' ∧ St B F' σ H ρ' ∧ Reps B.c F' ds xs
  | [], _, _, F, ρ, ρ', S, R, h => by
    cases R
    cases h
    exact ⟨F, Ex.refl F, S, .nil⟩
  | r :: rs, _, _, F, ρ, ρ', S, R, h => by
    cases R with
    | cons n R1 R2 =>
      simp only [frzs] at h
      cases e1 : frzR ρ r with
      | none => rw [e1] at h; cases h
      | some p =>
        obtain ⟨d, ρ1⟩ := p
        rw [e1] at h
        simp only at h
        cases e2 : frzs ρ1 rs with
        | none => rw [e2] at h; cases h
        | some q =>
          obtain ⟨ds, ρ2⟩ := q
          rw [e2] at h
          cases h
          obtain ⟨F1, x1, S1, q1⟩ := frzR_ok S R1 e1
          obtain ⟨F2, x2, S2, q2⟩ := frzs_ok S1 (R2.move x1) e2
          exact ⟨F2, x1.trans x2, S2, .cons (q1.ex x2) q2⟩
inductive RdXs (c : Ct) (F H : Hp) : List D → List V → Prop
  | nil : RdXs c F H [] []
  | cons {d : D} {x : V} {ds : List D} {xs : List V} : RdX c F H d x → RdXs c F H ds xs → RdXs c F H (d :: ds) (x :: xs)
theorem looks_ok (S : St B F σ H ρ) : ∀ {rs : List Res} {xs : List V} {ds : List D}, RessOk B F σ H ρ rs xs → looks ρ rs = some ds → RdXs B.c F H ds xs
  | _, _, _, .nil, h => by cases h; exact .nil
  | r :: rs, _, _, .cons n R1 R2, h => by
    simp only [looks] at h
    cases e1 : look ρ r with
    | none => simp only [e1] at h; cases h
    | some d =>
      cases e2 : looks ρ rs with
      | none => simp only [e1, e2] at h; cases h
      | some ds =>
        simp only [e1, e2] at h
        cases h
        exact .cons (R1.rd S e1) (looks_ok S R2 e2)
end
section
variable {X : Cx} {B : Bs} {W : WX} {x y z : Expr} {xs : List Expr} {a b d : Ev} {t : EvA} {pos p2 : Pos}
theorem a_nil : PAD X B W [] aNil := pa_wk pa_nil fun σ H Q ⟨F, ρ, S, h⟩ => h F H [] (Ex.refl F) S .nil
theorem a_cons (ha : PED X B W x a) (ht : PAD X B W xs t) (hs : starEach (x :: xs) X.env = (false, eval x X.env) :: starEach xs X.env := by rfl) : PAD X B W (x :: xs) (aCons a t) :=
  pa_wk (pa_cons ha ht hs) fun σ H Q ⟨F, ρ, S, h⟩ => by
    refine bdA_ok S h fun r1 ρ1 F1 H1 x e1 S1 R1 h1 => ?_
    obtain ⟨F1', e1', S1', R1'⟩ := R1.hold S1
    refine aabd_ok S1' (h1.mono e1') fun rs ρ2 F2 H2 xs e2 S2 R2 h2 => ?_
    exact h2 F2 H2 _ (Ex.refl _) S2 (.cons hold_ne (R1'.move hold_ne e2) R2)
/-- (a, b, ..) -/
noncomputable def eTup (t : EvA) : Ev := fun ρ => (t ρ).bdE fun rs ρ1 => match frzs ρ1 rs with
  | some (ds, ρ2) => if lineOk ds.length then .ok (.v (.tuple ds)) ρ2 else .bad
  | none => .bad
theorem d_tup {k : Nat} (ht : PAD X B W xs t) : PED X B W (.Tuple xs k pos) (eTup t) :=
  pe_wk (pe_tup ht) fun σ H Q ⟨F, ρ, S, h⟩ => by
    refine abd_ok S h fun rs ρ1 F1 H1 vs e1 S1 R1 h1 => ?_
    cases e : frzs ρ1 rs with
    | none => simp only [e] at h1; exact h1.elim
    | some p =>
      obtain ⟨ds, ρ2⟩ := p
      simp only [e] at h1
      split at h1
      · rename_i hl
        obtain ⟨F2, x2, S2, q2⟩ := frzs_ok S1 R1 e
        refine ⟨by rw [q2.length]; exact lineOk_le hl, fun p hp => ?_⟩
        exact (newOk S2 (h1.mono x2) sv).tup S2.ex q2 hp
      · exact h1.elim
/-- [a, b, ..] -/
noncomputable def eLst (t : EvA) : Ev := fun ρ => (t ρ).bdE fun rs ρ1 => match frzs ρ1 rs with
  | some (ds, ρ2) => if lineOk ds.length then .ok (.f (.list ds)) ρ2 else .bad
  | none => .bad
theorem d_lst (ht : PAD X B W xs t) : PED X B W (.List xs pos) (eLst t) :=
  pe_wk (pe_lst ht) fun σ H Q ⟨F, ρ, S, h⟩ => by
    refine abd_ok S h fun rs ρ1 F1 H1 vs e1 S1 R1 h1 => ?_
    cases e : frzs ρ1 rs with
    | none => simp only [e] at h1; exact h1.elim
    | some p =>
      obtain ⟨ds, ρ2⟩ := p
      simp only [e] at h1
      split at h1
      · rename_i hl
        obtain ⟨F2, x2, S2, q2⟩ := frzs_ok S1 R1 e
        refine ⟨by rw [q2.length]; exact lineOk_le hl, fun p hp => ?_⟩
        exact (newOk S2 (h1.mono x2) sf).lst S2.ex q2 hp
      · exact h1.elim

/-! ### built-ins by values -/
def eBlt (f : List D → Option Res) (t : EvA) : Ev := fun ρ => (t ρ).bdE fun rs ρ1 => match looks ρ1 rs with
  | some ds => retOp ρ1 (f ds)
  | none => .bad
def CallD (c : Ct) (r : List V → Hp → VK → Prop) (f : List D → Option Res) : Prop := ∀ F H ds xs res Q, Ex F H → RdXs c F H ds xs → f ds = some res → (∀ i, res ≠ .s i) ∧ (NewOk c F H Q res → r xs H Q)
theorem blt_ok {r : List V → Hp → VK → Prop} {f : List D → Option Res} (hf : CallD B.c r f) (σ : L2.St) (H : Hp) (Q : VK) (h : tE B W (eBlt f t) σ H Q) : tCB r (tA B W t) σ H Q := by
  obtain ⟨F, ρ, S, h⟩ := h
  refine abd_ok S h fun rs ρ1 F1 H1 vs e1 S1 R1 h1 => ?_
  cases e : looks ρ1 rs with
  | none => simp only [e] at h1; exact h1.elim
  | some ds =>
    simp only [e] at h1
    cases e3 : f ds with
    | none => rw [e3] at h1; exact h1.elim
    | some res =>
      rw [e3] at h1
      obtain ⟨ns, k⟩ := hf F1 H1 ds vs res Q S1.ex (looks_ok S1 R1 e) e3
      exact k (newOk S1 h1 ns)
theorem d_blt {id : String} {r : List V → Hp → VK → Prop} {f : List D → Option Res} {nm : Str} {p : Pos} (hc : CallR X (.builtin id) r) (hf : CallD B.c r f) (hg : Gl X nm) (hm : X.mg nm = none) (hv : bootBuiltins nm = some (.builtin id)) (ht : PAD X B W (x :: xs) t)
    (hn : nm ≠ "__name__" := by decide) (hdb : (nm == ("__debug__" : Str)) = false := by decide)
    (he : starEach (x :: xs) X.env = (false, eval x X.env) :: starEach xs X.env := by rfl) (hpl : (backTo pos (starEach xs X.env)).any (·.1) = false := by rfl) : PED X B W (.Call (.Name nm p) (x :: xs) [] pos) (eBlt f t) :=
  pe_wk (pe_callB hc hg hm hv ht hn hdb he hpl) (blt_ok hf)
theorem d_bltT {T : String} {r : List V → Hp → VK → Prop} {f : List D → Option Res} {nm : Str} {p : Pos} (hc : CallR X (.type T) r) (hf : CallD B.c r f) (hg : Gl X nm) (hm : X.mg nm = none) (hv : bootBuiltins nm = some (.type T)) (ht : PAD X B W (x :: xs) t)
    (hn : nm ≠ "__name__" := by decide) (hdb : (nm == ("__debug__" : Str)) = false := by decide)
    (he : starEach (x :: xs) X.env = (false, eval x X.env) :: starEach xs X.env := by rfl) (hpl : (backTo pos (starEach xs X.env)).any (·.1) = false := by rfl) : PED X B W (.Call (.Name nm p) (x :: xs) [] pos) (eBlt f t) :=
  pe_wk (pe_callTy hc hg hm hv ht hn hdb he hpl) (blt_ok hf)
end
end Pd
end
section
set_option Elab.async false
set_option linter.all false
set_option maxRecDepth 100000
set_option maxHeartbeats 4000000
namespace RT
open PySem PySem.Spec PyProof.Rows
section
variable {prog : Program} {w : World} {A : Around} {E : Value → Shared → Prop} {s : Shared}
/-- a new list takes what the backward iterator of a list gives -/
theorem fill_rev {it l S : Addr} {items : Array Value} {res : Value} {c₀ : Nat} {R : Result → Shared → Prop} (hh : A.handled = none) (hit : s.heap.IsRevIter it l ((items.size : Int) - 1)) (hl : s.heap.IsList l items)
    (hne : l ≠ it) (hn : items.size ≤ sizeLine) (hS : s.heap.get? S = some { cls := .type "list", data := .seq #[] c₀ }) (d1 : S ≠ it) (d2 : S ≠ l)
    (hR : ∀ (h' : Heap) (tk : Nat) (acc : Array Value) (c : Nat), (∀ b o, b ≠ it → b ≠ S → s.heap.get? b = some o → h'.get? b = some o) → h'.get? S = some { cls := .type "list", data := .seq acc c } →
      ItemsOf (fun i v => items[items.size - 1 - i]? = some v) acc items.size → R (.ok (.ret res)) { s with heap := h', toks := tk }) :
    wpAny (model prog w) A.in1 (Builtin.List.listExtendWith (.ref S) (.ref it) res)
      (fun fin s' => match fin with | .done f => R (.ok f) s' | .again c' => c'.quiet = true ∧ codeAny (model prog w) A c' R s') (fun e s' => R (.error e) s') s := by
  have W := (Walks.listRev (prog := prog) (w := w) (A := A.in1) hh it l hne items).toS
  have nm : S ∉ [it, l] := by simp only [List.mem_cons, List.not_mem_nil, or_false, not_or]; exact ⟨d1, d2⟩
  have hT : s.TypeIs (.ref it) "list_reverseiterator" := hit.typeIs
  have same : Builtin.List.listSameRef (.ref S) (.ref it) = false := by simp [Builtin.List.listSameRef, d1]
  unfold Builtin.List.listExtendWith
  refine wpAny_bind (wpAny_typeOf hT ?_)
  rw [if_neg (by rw [same]; decide)]
  refine wpAny_bind (wpAny_pyIter_revIter hit (wpAny_bind (wpAny_holding ?_)))
  unfold Builtin.List.listLengthHint
  refine wpAny_bind (wpAny_specialOf hT nolen_lri ?_)
  show wpAny _ A.in1 (specialOf (Value.ref it) (Str.ofString "__length_hint__") >>= _) _ _ s
  refine wpAny_bind (wpAny_specialOf hT hint_lri ?_)
  generalize hid : ("list_reverseiterator.__length_hint__" : String) = nm0
  wp_delta
  rw [show splitId nm0 = some ("list_reverseiterator", "__length_hint__") from by subst hid; decide +kernel]
  subst hid
  refine wpAny_bind (wpAny_isInstance (b := true) hT (by rw [isSubtype_type]; kernel_rfl) (wpAny_pure ?_))
  rw [if_neg (by decide)]
  have z : ((items.size : Nat) : Int) - 1 - ((0 : Nat) : Int) = (items.size : Int) - 1 := by omega
  refine wpAny_pure ⟨plainId_quiet F.plain_extend_loop _, ?_⟩
  refine codeAny_extend_loopS W hn _ nm _ items.size 0 _ _ _ rfl (Nat.zero_le _) ⟨Nat.zero_le _, by rw [z]; exact hit, hl⟩ hS (ItemsOf.nil _) fun s' acc c hm hS' hacc => ?_
  rw [Moved.eq_with hm]
  refine hR s'.heap s'.toks acc c (fun b o h1 h2 e => hm.heap b o (fun hmem => ?_) e) hS' hacc
  rcases List.mem_cons.mp hmem with e' | hmem
  · exact h2 e'
  · exact h1 (List.mem_singleton.mp hmem)
theorem list_init_rev {it l S : Addr} {items : Array Value} {R : Result → Shared → Prop} (hh : A.handled = none) (hit : s.heap.IsRevIter it l ((items.size : Int) - 1)) (hl : s.heap.IsList l items)
    (hne : l ≠ it) (hn : items.size ≤ sizeLine) (hS : s.heap.get? S = some { cls := .type "list", data := .seq #[] }) (d1 : S ≠ it) (d2 : S ≠ l)
    (hR : ∀ (h' : Heap) (tk : Nat) (acc : Array Value) (c : Nat), (∀ b o, b ≠ it → b ≠ S → s.heap.get? b = some o → h'.get? b = some o) → h'.get? S = some { cls := .type "list", data := .seq acc c } →
      ItemsOf (fun i v => items[items.size - 1 - i]? = some v) acc items.size → R (.ok (.ret .none)) { s with heap := h', toks := tk }) :
    wpAny (model prog w) A.in1 (Builtin.«list.__init__» ⟨[.ref S, .ref it], []⟩)
      (fun fin s' => match fin with | .done f => R (.ok f) s' | .again c' => c'.quiet = true ∧ codeAny (model prog w) A c' R s') (fun e s' => R (.error e) s') s := by
  show wpAny _ A.in1 (do
    let old ← Builtin.List.listItems (.ref S)
    Builtin.List.listUpdate (.ref S) (fun _ => #[])
    letGo old.toList.reverse
    Builtin.List.listExtendWith (.ref S) (.ref it) .none) _ _ s
  unfold Builtin.List.listItems
  refine wpAny_bind (wpAny_bind (wpAny_seqItems hS rfl (wpAny_pure ?_)))
  refine wpAny_bind (m := updateSeq S fun _ => #[]) (wpAny_updateSeq hS rfl ?_)
  have hS2 := Heap.get?_update_self (Obj.mapSeq (fun _ => (#[] : Array Value))) hS rfl
  have oth : ∀ b o, b ≠ S → s.heap.get? b = some o → (s.heap.update S (Obj.mapSeq (fun _ => (#[] : Array Value)))).get? b = some o := fun b o hb e => by
    rw [Heap.get?_update_other _ _ (Ne.symm hb)]
    exact e
  refine wpAny_bind (wpAny_letGo ?_)
  obtain ⟨oi, e1, e2⟩ := id hit
  obtain ⟨ol, f1, f2⟩ := id hl
  refine fill_rev (s := { s with heap := s.heap.update S (Obj.mapSeq (fun _ => #[])) }) hh ⟨oi, oth _ _ (Ne.symm d1) e1, e2⟩ ⟨ol, oth _ _ (Ne.symm d2) f1, f2⟩ hne hn hS2 d1 d2 fun h' tk acc c k1 k2 k3 => ?_
  exact hR h' tk acc c (fun b o h1 h2 e => k1 b o h1 h2 (oth b o h2 e)) k2 k3
theorem call_list_rev {it l : Addr} {items : Array Value} {Q : Value → Shared → Prop} (hh : A.handled = none) (hit : s.heap.IsRevIter it l ((items.size : Int) - 1)) (hl : s.heap.IsList l items) (hne : l ≠ it) (hn : items.size ≤ sizeLine)
    (hQ : ∀ (h' : Heap) (tk : Nat) (acc : Array Value) (c : Nat), (∀ b o, b ≠ it → s.heap.get? b = some o → h'.get? b = some o) → h'.get? s.heap.objs.size = some { cls := .type "list", data := .seq acc c } →
      ItemsOf (fun i v => items[items.size - 1 - i]? = some v) acc items.size → Q (.ref s.heap.objs.size) { s with heap := h', toks := tk }) :
    wpAny (model prog w) A (call (.type "list") [.ref it]) Q E s := by
  refine callType_codes (Q₁ := fun obj s₁ => obj = .ref s.heap.objs.size ∧ s₁ = { s with heap := s.heap.push { cls := .type "list", data := .seq #[] } }) F.called_list
    (F.typeCall_list_1 _) F.entry_list_init (code_list_new _ ⟨rfl, rfl⟩) fun obj s₁ h₁ => ?_
  obtain ⟨e1, e2⟩ := h₁
  subst e1 e2
  have hS : (s.heap.push { cls := .type "list", data := .seq #[] }).get? s.heap.objs.size = some { cls := .type "list", data := .seq #[] } := Heap.get?_push_size _ rfl
  obtain ⟨oi, f1, f2⟩ := id hit
  obtain ⟨ol, g1, g2⟩ := id hl
  refine ⟨⟨_, hS, rfl⟩, F.args_list_init_2 _ _, ?_⟩
  refine list_init_rev (A := A.in1) (s := { s with heap := s.heap.push { cls := .type "list", data := .seq #[] } }) hh ⟨oi, Heap.get?_push_of_some _ f1, f2⟩ ⟨ol, Heap.get?_push_of_some _ g1, g2⟩ hne hn hS
    (Nat.ne_of_gt (Heap.lt_size f1)) (Nat.ne_of_gt (Heap.lt_size g1)) fun h' tk acc c k1 k2 k3 => ⟨rfl, ?_⟩
  exact hQ h' tk acc c (fun b o hb e => k1 b o hb (Nat.ne_of_lt (Heap.lt_size e)) (Heap.get?_push_of_some _ e)) k2 k3
end
end RT
end
section
set_option Elab.async false
set_option linter.all false
set_option maxRecDepth 100000
set_option maxHeartbeats 4000000
namespace Pd
open PySem L2
section
variable {X : Cx} {B : Bs} {W : WX} {x y z : Expr} {a b d : Ev} {pos : Pos}
open PySem.Spec PyProof.Rows in
/-- list(reversed(xs)) -/
theorem pe_listRev {te : TE} {p p2 pos2 : Pos} (hc : X.calm = true) (gl : Gl X "list") (ml : X.mg "list" = none) (gr : Gl X "reversed") (mr : X.mg "reversed" = none) (he : PE X x te)
    (s1 : starEach [.Call (.Name "reversed" p2) [x] [] pos2] X.env = (false, eval (.Call (.Name "reversed" p2) [x] [] pos2) X.env) :: starEach [] X.env := by rfl)
    (s2 : starEach [x] X.env = (false, eval x X.env) :: starEach [] X.env := by rfl) :
    PE X (.Call (.Name "list" p) [.Call (.Name "reversed" p2) [x] [] pos2] [] pos)
      (fun σ H Q => te σ H fun x H1 => ∃ a xs, x = .ref a ∧ Rd H1 a (.lst xs) ∧ ∀ p, H1 p = none → Q (.ref p) (upd H1 p (.lst xs.reverse))) := by
  refine ⟨fun pins s σ H Q I h => ?_⟩
  refine Call_ (ld_blt I gl ml boot_list (PyProof.Rows.callWith_type1 ?_ s1))
  rw [s1]
  refine Calls.spliced_cons (Call_ (ld_blt I gr mr PyProof.Rows.boot_reversed (PyProof.Rows.callWith_type1 (one_arg he I h (fun u s3 x H1 I1 rx q => ?_) s2) s2)))
  obtain ⟨a, xs, e1, hq, q⟩ := q
  subst e1
  cases rx
  obtain ⟨hz, its, n, rv, hl, e⟩ := lstR I1 hq
  have isl : s3.heap.IsList a its.toArray := ⟨_, e, rfl, n, rfl⟩
  refine call_reversed_list isl ?_
  refine Calls.spliced_nil ?_
  have nea : a ≠ s3.heap.objs.size := Nat.ne_of_lt (Heap.lt_size e)
  have hz2 : its.toArray.size ≤ sizeLine := by rw [List.size_toArray, ← hl]; exact hz
  refine RT.call_list_rev (l := a) (items := its.toArray) (I1.ok.hd hc) ⟨_, Heap.get?_push_size _ rfl, rfl, rfl⟩ (isl.push _) nea hz2 fun h' tk acc c k1 k2 k3 => ?_
  have e2 : acc.toList = its.reverse := by
    obtain ⟨z1, z2⟩ := k3
    refine List.ext_getElem? fun i => ?_
    by_cases hi : i < its.length
    · have hi2 : i < acc.size := by rw [z1, List.size_toArray]; exact hi
      have y2 := z2 i acc[i] (Array.getElem?_eq_getElem hi2)
      rw [Array.getElem?_toList, Array.getElem?_eq_getElem hi2, List.getElem?_reverse hi, ← y2]
      simp
    · rw [List.getElem?_eq_none (by simp [z1]; omega), List.getElem?_eq_none (by simp; omega)]
  have I2 : L2.Inv X pins σ H1 { s3 with heap := s3.heap.push (revObj a ((its.toArray.size : Int) - 1)) } := I1.kept (t' := s3.toks) fun b o q => Heap.get?_push_of_some _ q
  have sz : (s3.heap.push (revObj a ((its.toArray.size : Int) - 1))).objs.size = s3.heap.objs.size + 1 := Heap.size_push ..
  have I3 : L2.Inv X pins σ (upd H1 (s3.heap.push (revObj a ((its.toArray.size : Int) - 1))).objs.size (.lst xs.reverse)) { s3 with heap := h', toks := tk } := by
    refine I1.laid (t' := tk) (a := (s3.heap.push (revObj a ((its.toArray.size : Int) - 1))).objs.size) (fun b o q => ?_) (by rw [sz]; exact Nat.le_succ _) ?_
    · exact k1 b o (Nat.ne_of_lt (Heap.lt_size q)) (Heap.get?_push_of_some _ q)
    · refine ⟨by rw [List.length_reverse]; exact hz, acc.toList, c, by rw [e2]; exact rv.reverse, ?_⟩
      rw [k2]
  refine ⟨.ref (s3.heap.push (revObj a ((its.toArray.size : Int) - 1))).objs.size, _, I3, rfl, q _ (I1.hok.fresh (by rw [sz]; exact Nat.le_succ _))⟩
/-- list(reversed(x)), x a list -/
def fRevL : D → Option Res
  | .list xs => some (.f (.list xs.reverse))
  | _ => none
theorem d_listRev {p p2 pos2 : Pos} (hc : X.calm = true) (gl : Gl X "list") (ml : X.mg "list" = none) (gr : Gl X "reversed") (mr : X.mg "reversed" = none) (ha : PED X B W x a)
    (s1 : starEach [.Call (.Name "reversed" p2) [x] [] pos2] X.env = (false, eval (.Call (.Name "reversed" p2) [x] [] pos2) X.env) :: starEach [] X.env := by rfl)
    (s2 : starEach [x] X.env = (false, eval x X.env) :: starEach [] X.env := by rfl) : PED X B W (.Call (.Name "list" p) [.Call (.Name "reversed" p2) [x] [] pos2] [] pos) (e1 fRevL a) :=
  pe_wk (pe_listRev hc gl ml gr mr ha s1 s2) fun σ H Q h => op1 (r := fun x H1 Q => ∃ a xs, x = .ref a ∧ Rd H1 a (.lst xs) ∧ ∀ p, H1 p = none → Q (.ref p) (upd H1 p (.lst xs.reverse))) (by
    intro F H d1 x res Q e h1 hf
    cases d1 <;> cases hf
    obtain ⟨a, vs, rfl, r, q⟩ := h1.list e
    exact ⟨sf, fun k => ⟨a, vs, rfl, r, fun p hp => k.lst e q.rev hp⟩⟩) σ H Q h
end
end Pd
end
section
set_option Elab.async false
set_option linter.all false
set_option maxRecDepth 100000
set_option maxHeartbeats 4000000
/-! min, max of data that can be compared -/
namespace Pd
open PySem PySem.Spec PyProof.Rows PySem.W PySem.SeqAt L2
theorem pick_mem {p : D → D → Bool} : ∀ (xs : List D) (x : D), xs.foldl (fun a y => if p y a then y else a) x ∈ x :: xs
  | [], x => by simp
  | y :: ys, x => by
    rw [List.foldl_cons]
    have := pick_mem (p := p) ys (if p y x then y else x)
    rcases List.mem_cons.mp this with e | e
    · rw [e]
      split <;> simp
    · exact List.mem_cons_of_mem _ (List.mem_cons_of_mem _ e)
def rMinP (K : Frag) : List V → Hp → VK → Prop := fun vs H Q => ∃ (a : Addr) (xs : List V) (d : D) (ds : List D), vs = [V.ref a] ∧ (SqL K H a xs ∨ SqT K H a xs) ∧ DpAll K H xs (d :: ds) ∧ AlikeAll (d :: ds) ∧ PyData.depthAll (d :: ds) ≤ 60 ∧ ∀ (i : Nat) (v : V), xs[i]? = some v → (d :: ds)[i]? = some (minD d ds) → Q v H
def rMaxP (K : Frag) : List V → Hp → VK → Prop := fun vs H Q => ∃ (a : Addr) (xs : List V) (d : D) (ds : List D), vs = [V.ref a] ∧ (SqL K H a xs ∨ SqT K H a xs) ∧ DpAll K H xs (d :: ds) ∧ AlikeAll (d :: ds) ∧ PyData.depthAll (d :: ds) ≤ 60 ∧ ∀ (i : Nat) (v : V), xs[i]? = some v → (d :: ds)[i]? = some (maxD d ds) → Q v H
section
variable {X : Cx} {pins : List (Addr × Obj)} {σ : L2.St} {H : Hp} {s : Shared}
theorem vals_at : ∀ {xs : List V} {us : List Value} {i : Nat} {u : Value}, Vals xs us → us[i]? = some u → ∃ x, xs[i]? = some x ∧ RelV x u
  | _, _, _, _, .nil, h => by simp at h
  | _, _, 0, _, .cons r _, h => by
    cases (show some _ = some _ from h)
    exact ⟨_, rfl, r⟩
  | _, _, i + 1, _, .cons (l₁ := xs) (l₂ := us) _ t, h => vals_at (xs := xs) (us := us) (i := i) t (by simpa using h)
theorem reads_at : ∀ {h : Heap} {us : List Value} {ds : List D} {as : List Addr} {i : Nat} {u : Value}, ReadsAll h us ds as → us[i]? = some u → ∃ d bs, ds[i]? = some d ∧ Reads h u d bs
  | _, _, _, _, _, _, .nil, h => by simp at h
  | _, _, _, _, 0, _, .cons r _, h => by
    cases (show some _ = some _ from h)
    exact ⟨_, _, rfl, r⟩
  | _, _, _, _, i + 1, _, .cons (vs := us) (ds := ds) _ t, h => reads_at (us := us) (ds := ds) (i := i) t (by simpa using h)
/-- the item that was found stands where its datum stands -/
theorem found_at {h' : Heap} {us : List Value} {ds : List D} {as bs : List Addr} {i : Nat} {v : Value} {m : D} (ha : ∀ x ∈ ds, ∀ y ∈ ds, alike x y = true) (hm : m ∈ ds) (hr : ReadsAll s.heap us ds as) (hv : us[i]? = some v) (rd : Reads h' v m bs) (hk : ∀ b o, s.heap.get? b = some o → h'.get? b = some o) : ds[i]? = some m := by
  obtain ⟨d, cs, hd, r⟩ := reads_at hr hv
  rw [hd, alike_unique m d v bs cs (ha m hm d (List.mem_of_getElem? hd)) rd (reads_keeps hk r)]
theorem cr_minP (hc : X.calm = true) (hu : X.A.units + 64 < cLine) : CallR X (.builtin "min") (rMinP X.K) := by
  intro pins s σ H vs us Q I r h
  obtain ⟨a, xs, d, ds, rfl, hs, hd, ha, hp, q⟩ := h
  rw [Vals.ref1 r]
  have mem : minD d ds ∈ d :: ds := pick_mem ds d
  rcases hs with hs | hs
  · obtain ⟨its, rv, hl, _⟩ := I.list hs
    obtain ⟨as, hr⟩ := Dp.readsAll I (d :: ds) xs its hd rv
    refine min_list_data (I.ok.hd hc) hl.isList (by simpa using hr) ha (by omega) fun i v h' tk bs hv rd hk => ?_
    have hv' : its[i]? = some v := by simpa using hv
    obtain ⟨x, hx, rx⟩ := vals_at rv hv'
    exact ⟨x, H, I.kept hk, rx, q i x hx (found_at ha.1 mem hr hv' rd hk)⟩
  · obtain ⟨its, rv, hl, _⟩ := I.tuple hs
    obtain ⟨as, hr⟩ := Dp.readsAll I (d :: ds) xs its hd rv
    refine min_tuple_data (I.ok.hd hc) hl (by simpa using hr) ha (by omega) fun i v h' tk bs hv rd hk => ?_
    have hv' : its[i]? = some v := by simpa using hv
    obtain ⟨x, hx, rx⟩ := vals_at rv hv'
    exact ⟨x, H, I.kept hk, rx, q i x hx (found_at ha.1 mem hr hv' rd hk)⟩
theorem cr_maxP (hc : X.calm = true) (hu : X.A.units + 64 < cLine) : CallR X (.builtin "max") (rMaxP X.K) := by
  intro pins s σ H vs us Q I r h
  obtain ⟨a, xs, d, ds, rfl, hs, hd, ha, hp, q⟩ := h
  rw [Vals.ref1 r]
  have mem : maxD d ds ∈ d :: ds := pick_mem (p := fun y a => dataLt a y) ds d
  rcases hs with hs | hs
  · obtain ⟨its, rv, hl, _⟩ := I.list hs
    obtain ⟨as, hr⟩ := Dp.readsAll I (d :: ds) xs its hd rv
    refine max_list_data (I.ok.hd hc) hl.isList (by simpa using hr) ha (by omega) fun i v h' tk bs hv rd hk => ?_
    have hv' : its[i]? = some v := by simpa using hv
    obtain ⟨x, hx, rx⟩ := vals_at rv hv'
    exact ⟨x, H, I.kept hk, rx, q i x hx (found_at ha.1 mem hr hv' rd hk)⟩
  · obtain ⟨its, rv, hl, _⟩ := I.tuple hs
    obtain ⟨as, hr⟩ := Dp.readsAll I (d :: ds) xs its hd rv
    refine max_tuple_data (I.ok.hd hc) hl (by simpa using hr) ha (by omega) fun i v h' tk bs hv rd hk => ?_
    have hv' : its[i]? = some v := by simpa using hv
    obtain ⟨x, hx, rx⟩ := vals_at rv hv'
    exact ⟨x, H, I.kept hk, rx, q i x hx (found_at ha.1 mem hr hv' rd hk)⟩
end
/-- data that can be compared with one another -/
def alikeB (ds : List D) : Bool := (ds.all fun x => ds.all fun y => alike x y) && (ds.all fun x => !isNone x) && fitAll 60 ds
theorem alikeB_ok {ds : List D} (h : alikeB ds = true) : AlikeAll ds ∧ PyData.plainAll ds = true ∧ PyData.depthAll ds ≤ 60 := by
  unfold alikeB at h
  simp only [Bool.and_eq_true, List.all_eq_true, Bool.not_eq_true'] at h
  obtain ⟨⟨h1, h2⟩, h3⟩ := h
  refine ⟨⟨h1, fun x hx e => ?_⟩, fitAll_ok 60 ds h3⟩
  have := h2 x hx
  rw [e] at this
  cases this
def minP : List D → Option D
  | d :: ds => if alikeB (d :: ds) then some (minD d ds) else none
  | [] => none
def maxP : List D → Option D
  | d :: ds => if alikeB (d :: ds) then some (maxD d ds) else none
  | [] => none
section
variable {c : Ct} {F H : Hp} {Q : VK}
theorem minP_ok {ds : List D} {vs : List V} {m : D} {a : Addr} (e : Ex F H) (hm : minP ds = some m) (hs : SqL c.K H a vs ∨ SqT c.K H a vs) (r : Reps c F ds vs) (k : ∀ z, Rep c F m z → Q z H) : rMinP c.K [.ref a] H Q := by
  cases ds with
  | nil => cases hm
  | cons d ds =>
    by_cases h : alikeB (d :: ds) = true
    · rw [minP, if_pos h] at hm
      have hm := Option.some.inj hm
      subst hm
      obtain ⟨h1, h2, h3⟩ := alikeB_ok h
      refine ⟨a, vs, d, ds, rfl, hs, ?_, h1, h3, fun i v hv hd => ?_⟩
      · have hx : ∀ (ds : List D) (vs : List V), Reps c F ds vs → PyData.plainAll ds = true → DpAll c.K H vs ds := fun ds => by
          induction ds with
          | nil => intro vs r _; cases r; exact .nil
          | cons d ds ih =>
            intro vs r p
            cases r with
            | cons r1 r2 =>
              simp only [PyData.plainAll, Bool.and_eq_true] at p
              exact .cons (RdX.dp e (.rep r1) p.1) (ih _ r2 p.2)
        exact hx _ _ r h2
      · obtain ⟨w, hw, rw'⟩ := r.getD hd
        rw [hv] at hw
        cases hw
        exact k _ rw'
    · rw [minP, if_neg h] at hm
      cases hm
theorem maxP_ok {ds : List D} {vs : List V} {m : D} {a : Addr} (e : Ex F H) (hm : maxP ds = some m) (hs : SqL c.K H a vs ∨ SqT c.K H a vs) (r : Reps c F ds vs) (k : ∀ z, Rep c F m z → Q z H) : rMaxP c.K [.ref a] H Q := by
  cases ds with
  | nil => cases hm
  | cons d ds =>
    by_cases h : alikeB (d :: ds) = true
    · rw [maxP, if_pos h] at hm
      have hm := Option.some.inj hm
      subst hm
      obtain ⟨h1, h2, h3⟩ := alikeB_ok h
      refine ⟨a, vs, d, ds, rfl, hs, ?_, h1, h3, fun i v hv hd => ?_⟩
      · have hx : ∀ (ds : List D) (vs : List V), Reps c F ds vs → PyData.plainAll ds = true → DpAll c.K H vs ds := fun ds => by
          induction ds with
          | nil => intro vs r _; cases r; exact .nil
          | cons d ds ih =>
            intro vs r p
            cases r with
            | cons r1 r2 =>
              simp only [PyData.plainAll, Bool.and_eq_true] at p
              exact .cons (RdX.dp e (.rep r1) p.1) (ih _ r2 p.2)
        exact hx _ _ r h2
      · obtain ⟨w, hw, rw'⟩ := r.getD hd
        rw [hv] at hw
        cases hw
        exact k _ rw'
    · rw [maxP, if_neg h] at hm
      cases hm
end
end Pd
end
section
set_option Elab.async false
set_option linter.all false
set_option maxRecDepth 100000
set_option maxHeartbeats 4000000
/-! sorted of tuples that can be compared -/
namespace Pd
open PySem PySem.Spec PyProof.Rows PySem.W PySem.SeqAt L2
def dLe : D → D → Bool := dataLe false fun d => d
def rSortP (K : Frag) : List V → Hp → VK → Prop := fun vs H Q => ∃ (a : Addr) (bs : List (V × D)), vs = [V.ref a] ∧ SqL K H a (bs.map (·.1)) ∧ DpAll K H (bs.map (·.1)) (bs.map (·.2)) ∧ AlikeAll (bs.map (·.2)) ∧ Sortable (bs.map (·.2)) ∧ PyData.depthAll (bs.map (·.2)) ≤ 60 ∧
  ∀ l, H l = none → Q (.ref l) (upd H l (.lst ((bs.mergeSort fun p q => dLe p.2 q.2).map (·.1))))
theorem depth_mem : ∀ {ds : List D} {d : D}, d ∈ ds → d.depth ≤ PyData.depthAll ds
  | x :: xs, d, h => by
    rw [PyData.depthAll]
    rcases List.mem_cons.mp h with rfl | h
    · exact Nat.le_max_left ..
    · exact Nat.le_trans (depth_mem h) (Nat.le_max_right ..)
theorem vals_each : ∀ {bs : List (V × D)} {us : List Value}, Vals (bs.map (·.1)) us → EachIs (fun v (b : V × D) => RelV b.1 v) us bs
  | [], _, h => by
    cases h
    exact .nil
  | b :: bs, _, h => by
    cases h with
    | cons r t => exact .cons r (vals_each t)
theorem each_vals : ∀ {bs : List (V × D)} {us : List Value}, EachIs (fun v (b : V × D) => RelV b.1 v) us bs → Vals (bs.map (·.1)) us
  | [], _, h => by
    cases h
    exact .nil
  | b :: bs, _, h => by
    cases h with
    | cons r t => exact .cons r (each_vals t)
section
variable {X : Cx}
theorem cr_sortP (hc : X.calm = true) (hu : X.A.units + 64 < cLine) : CallR X (.builtin "sorted") (rSortP X.K) := by
  intro pins s σ H vs us Q I r h
  obtain ⟨a, bs, rfl, hs, hd, ha, ht, hp, q⟩ := h
  obtain ⟨its, rv, hl, hz⟩ := I.list hs
  rw [Vals.ref1 r]
  obtain ⟨as, hr⟩ := Dp.readsAll I (bs.map (·.2)) (bs.map (·.1)) its hd rv
  rw [List.length_map] at hz
  refine sorted_data (bs := bs) (enc := fun b : V × D => b.2) (R := fun v (b : V × D) => RelV b.1 v) hl.isList (vals_each rv) (readsAll_each (fun b : V × D => b.2) hr) ha.1 ht hz (fun b hb => ?_) fun out h1 h2 => ?_
  · have := depth_mem (List.mem_map.mpr ⟨b, hb, rfl⟩ : b.2 ∈ bs.map (·.2))
    omega
  · obtain ⟨ep, he'⟩ := PyProof.Rows.sortedAll_at s.heap its out.toArray
    have hv := each_vals h2
    have hlen : ((bs.mergeSort (dataLe false fun b : V × D => b.2)).map (·.1)).length ≤ sizeLine := by
      rw [List.length_map, List.length_mergeSort]
      exact hz
    exact ⟨.ref _, upd H (s.heap.objs.size + 1) (.lst ((bs.mergeSort (dataLe false fun b : V × D => b.2)).map (·.1))), I.laid (t' := s.toks) (fun _ _ => PyProof.Rows.sortedAll_old) (Nat.le_succ _) ⟨hlen, out, ep, hv, he'⟩, rfl, q _ (I.hok.fresh (Nat.le_succ _))⟩
end
def tup1 : D → Bool
  | .tuple (_ :: _) => true
  | _ => false
def sortP (ds : List D) : Option (List D) := if alikeB ds && ds.all tup1 then some (ds.mergeSort dLe) else none
section
variable {c : Ct} {F H : Hp} {Q : VK}
theorem reps_pairs : ∀ {ds : List D} {vs : List V}, Reps c F ds vs → ∃ bs : List (V × D), vs = bs.map (·.1) ∧ ds = bs.map (·.2) ∧ ∀ b ∈ bs, Rep c F b.2 b.1
  | [], _, h => by
    cases h
    exact ⟨[], rfl, rfl, fun b hb => nomatch hb⟩
  | d :: ds, _, h => by
    cases h with
    | cons r t =>
      obtain ⟨bs, rfl, rfl, k⟩ := reps_pairs t
      refine ⟨(_, d) :: bs, rfl, rfl, fun b hb => ?_⟩
      rcases List.mem_cons.mp hb with rfl | hb
      · exact r
      · exact k b hb
theorem pairs_reps : ∀ {bs : List (V × D)}, (∀ b ∈ bs, Rep c F b.2 b.1) → Reps c F (bs.map (·.2)) (bs.map (·.1))
  | [], _ => .nil
  | b :: bs, h => .cons (h b (List.mem_cons_self ..)) (pairs_reps fun x hx => h x (List.mem_cons_of_mem _ hx))
theorem sortP_ok {ds es : List D} {vs : List V} {a : Addr} (e : Ex F H) (hm : sortP ds = some es) (hs : SqL c.K H a vs) (r : Reps c F ds vs) (k : ∀ ys l, Reps c F es ys → H l = none → Q (.ref l) (upd H l (.lst ys))) : rSortP c.K [.ref a] H Q := by
  by_cases h : (alikeB ds && ds.all tup1) = true
  · rw [sortP, if_pos h] at hm
    have hm := Option.some.inj hm
    subst hm
    rw [Bool.and_eq_true] at h
    obtain ⟨h1, h2, h3⟩ := alikeB_ok h.1
    have ht : Sortable ds := .inl fun d hd => by
      have := List.all_eq_true.mp h.2 d hd
      match d, this with
      | .tuple (x :: r), _ => exact ⟨x, r, rfl⟩
    have hx : ∀ (ds : List D) (vs : List V), Reps c F ds vs → PyData.plainAll ds = true → DpAll c.K H vs ds := fun ds => by
      induction ds with
      | nil => intro vs r _; cases r; exact .nil
      | cons d ds ih =>
        intro vs r p
        cases r with
        | cons r1 r2 =>
          simp only [PyData.plainAll, Bool.and_eq_true] at p
          exact .cons (RdX.dp e (.rep r1) p.1) (ih _ r2 p.2)
    have hdp := hx _ _ r h2
    obtain ⟨bs, rfl, rfl, kk⟩ := reps_pairs r
    refine ⟨a, bs, rfl, hs, hdp, h1, ht, h3, fun l hl => k _ _ ?_ hl⟩
    have em : (bs.mergeSort fun p q => dLe p.2 q.2).map (·.2) = (bs.map (·.2)).mergeSort dLe := List.map_mergeSort fun _ _ _ _ => rfl
    rw [← em]
    exact pairs_reps fun b hb => kk b ((List.mergeSort_perm _ _).mem_iff.mp hb)
  · rw [sortP, if_neg h] at hm
    cases hm
end
/-- the least comes first -/
theorem sort_first {ds : List D} {d0 : D} (h0 : d0 ∈ ds) (h : ∀ d ∈ ds, d = d0 ∨ dataLt d0 d = true) : ∃ es, ds.mergeSort dLe = d0 :: es := by
  have pw : (ds.mergeSort dLe).Pairwise fun a b => dLe a b = true := sort_pairwise (sortLe_total _ false _) ds
  have pm := List.mergeSort_perm ds dLe
  cases e : ds.mergeSort dLe with
  | nil =>
    rw [e] at pm
    have := pm.mem_iff.mpr h0
    cases this
  | cons x es =>
    rw [e] at pm pw
    have hx : x ∈ ds := pm.mem_iff.mp (List.mem_cons_self ..)
    have hd : d0 = x ∨ dLe x d0 = true := by
      rcases List.mem_cons.mp (pm.mem_iff.mpr h0) with q | q
      · exact .inl q
      · exact .inr ((List.pairwise_cons.mp pw).1 d0 q)
    refine ⟨es, ?_⟩
    congr 1
    rcases hd with q | q
    · exact q.symm
    · rcases h x hx with z | z
      · exact z
      · have q : (!dataLt d0 x) = true := q
        rw [z] at q
        cases q
end Pd
end
section
set_option Elab.async false
set_option linter.all false
set_option maxRecDepth 100000
set_option maxHeartbeats 4000000
namespace Pd
open PySem L2

def asInts : List D → Option (List Int)
  | [] => some []
  | .int i :: ds => (asInts ds).map (i :: ·)
  | _ :: _ => none
theorem asInts_eq : ∀ {ds : List D} {ns : List Int}, asInts ds = some ns → ds = ns.map PyData.int
  | [], _, h => by cases h; rfl
  | .int i :: ds, ns, h => by
    simp only [asInts] at h
    cases e : asInts ds with
    | none => rw [e] at h; cases h
    | some r => rw [e] at h; cases h; rw [asInts_eq e]; rfl
  | .none :: _, _, h => by cases h
  | .bool _ :: _, _, h => by cases h
  | .str _ :: _, _, h => by cases h
  | .list _ :: _, _, h => by cases h
  | .tuple _ :: _, _, h => by cases h
  | .dict _ :: _, _, h => by cases h
theorem asInts_map (ns : List Int) : asInts (ns.map PyData.int) = some ns := by
  induction ns with
  | nil => rfl
  | cons n r ih => rw [List.map_cons, asInts, ih]; rfl
/-- the least, the greatest of n :: ns -/
def leastI (n : Int) (ns : List Int) : Int := ns.foldl (fun m y => if y < m then y else m) n
def mostI (n : Int) (ns : List Int) : Int := ns.foldl (fun m y => if m < y then y else m) n
theorem leastI_mem : ∀ (ns : List Int) (n : Int), leastI n ns ∈ n :: ns
  | [], n => by simp [leastI]
  | y :: r, n => by
    have ih := leastI_mem r (if y < n then y else n)
    unfold leastI at ih ⊢
    rw [List.foldl_cons]
    rcases List.mem_cons.mp ih with e | e
    · rw [e]; split <;> simp
    · exact List.mem_cons_of_mem _ (List.mem_cons_of_mem _ e)
theorem leastI_le : ∀ (ns : List Int) (n : Int), leastI n ns ≤ n ∧ ∀ y ∈ ns, leastI n ns ≤ y
  | [], n => by simp [leastI]
  | y :: r, n => by
    have ih := leastI_le r (if y < n then y else n)
    have e : leastI n (y :: r) = leastI (if y < n then y else n) r := rfl
    rw [e]
    have a := ih.1
    refine ⟨by split at a <;> omega, fun z hz => ?_⟩
    rcases List.mem_cons.mp hz with rfl | hz
    · split at a <;> omega
    · exact ih.2 z hz
theorem mostI_mem : ∀ (ns : List Int) (n : Int), mostI n ns ∈ n :: ns
  | [], n => by simp [mostI]
  | y :: r, n => by
    have ih := mostI_mem r (if n < y then y else n)
    unfold mostI at ih ⊢
    rw [List.foldl_cons]
    rcases List.mem_cons.mp ih with e | e
    · rw [e]; split <;> simp
    · exact List.mem_cons_of_mem _ (List.mem_cons_of_mem _ e)
theorem mostI_le : ∀ (ns : List Int) (n : Int), n ≤ mostI n ns ∧ ∀ y ∈ ns, y ≤ mostI n ns
  | [], n => by simp [mostI]
  | y :: r, n => by
    have ih := mostI_le r (if n < y then y else n)
    have e : mostI n (y :: r) = mostI (if n < y then y else n) r := rfl
    rw [e]
    have a := ih.1
    refine ⟨by split at a <;> omega, fun z hz => ?_⟩
    rcases List.mem_cons.mp hz with rfl | hz
    · split at a <;> omega
    · exact ih.2 z hz
/-- ints in order -/
def sortI (ns : List Int) : List Int := ns.mergeSort fun a b => decide (a ≤ b)
theorem sortI_perm (ns : List Int) : (sortI ns).Perm ns := List.mergeSort_perm _ _
theorem sortI_ord (ns : List Int) : (sortI ns).Pairwise (· ≤ ·) := by
  have h := List.pairwise_mergeSort (le := fun a b : Int => decide (a ≤ b)) (fun a b c h1 h2 => by simp at *; omega) (fun a b => by simp; omega) ns
  exact h.imp fun h => by simpa using h
theorem ord_same : ∀ {xs ys : List Int}, xs.Perm ys → xs.Pairwise (· ≤ ·) → ys.Pairwise (· ≤ ·) → xs = ys := by
  intro xs ys h h1 h2
  exact h.eq_of_pairwise (fun a b _ _ h3 h4 => by omega) h1 h2

/-! ### what they are worth -/
noncomputable def fLen : List D → Option Res
  | [.list xs] => some (.v (.int xs.length))
  | [.tuple xs] => some (.v (.int xs.length))
  | [.str s] => if lineOk s.length then some (.v (.int s.length)) else none
  | [d] => match scrOf d with
    | some xs => some (.v (.int xs.length))
    | none => match asDct d with
      | some (_, kvs) => some (.v (.int kvs.length))
      | none => none
  | _ => none
def fAbs : List D → Option Res
  | [.int i] => some (.v (.int (if i < 0 then -i else i)))
  | _ => none
def fInt : List D → Option Res
  | [.int i] => some (.v (.int i))
  | [.bool b] => some (.v (.int (if b then 1 else 0)))
  | _ => none
def fMax : List D → Option Res
  | [.int i, .int j] => some (.v (.int (if j > i then j else i)))
  | [.list ds] => match asInts ds with
    | some (n :: ns) => some (.v (.int (mostI n ns)))
    | _ => (maxP ds).map .v
  | [.tuple ds] => match asInts ds with
    | some (n :: ns) => some (.v (.int (mostI n ns)))
    | _ => (maxP ds).map .v
  | _ => none
def fMin : List D → Option Res
  | [.int i, .int j] => some (.v (.int (if j < i then j else i)))
  | [.list ds] => match asInts ds with
    | some (n :: ns) => some (.v (.int (leastI n ns)))
    | _ => (minP ds).map .v
  | [.tuple ds] => match asInts ds with
    | some (n :: ns) => some (.v (.int (leastI n ns)))
    | _ => (minP ds).map .v
  | _ => none
def fSum : List D → Option Res
  | [.list ds] => match asInts ds with
    | some ns => some (.v (.int ns.sum))
    | _ => none
  | [.tuple ds] => match asInts ds with
    | some ns => some (.v (.int ns.sum))
    | _ => none
  | _ => none
def fList : List D → Option Res
  | [.list ds] => some (.f (.list ds))
  | [.tuple ds] => some (.f (.list ds))
  | _ => none
def fTuple : List D → Option Res
  | [.list ds] => some (.v (.tuple ds))
  | [.tuple ds] => some (.v (.tuple ds))
  | _ => none
def fSortI : List D → Option Res
  | [.list ds] => match asInts ds with
    | some ns => some (.f (.list ((sortI ns).map PyData.int)))
    | _ => (sortP ds).map fun es => .f (.list es)
  | _ => none
def fGcd : List D → Option Res
  | [.int a, .int b] => some (.v (.int ((Nat.gcd a.natAbs b.natAbs : Nat) : Int)))
  | _ => none
section
variable {X : Cx} {c : Ct} {F H : Hp}
theorem CallR.or {f : Value} {r r' : List V → Hp → VK → Prop} (h : CallR X f r) (h' : CallR X f r') : CallR X f (fun xs H Q => r xs H Q ∨ r' xs H Q) := by
  intro pins s σ H xs us Q I rs q
  rcases q with q | q
  · exact h pins s σ H xs us Q I rs q
  · exact h' pins s σ H xs us Q I rs q
theorem RdXs.one {d : D} {xs : List V} (h : RdXs c F H [d] xs) : ∃ x, xs = [x] ∧ RdX c F H d x := by
  cases h with | cons h t => cases t; exact ⟨_, rfl, h⟩
theorem RdXs.two {d e : D} {xs : List V} (h : RdXs c F H [d, e] xs) : ∃ x y, xs = [x, y] ∧ RdX c F H d x ∧ RdX c F H e y := by
  cases h with | cons h t => cases t with | cons h' t => cases t; exact ⟨_, _, rfl, h, h'⟩
theorem RdX.ints {ds : List D} {ns : List Int} {x : V} (e : Ex F H) (h : RdX c F H (.list ds) x) (hn : asInts ds = some ns) : ∃ a, x = .ref a ∧ Rd H a (.lst (ns.map V.int)) := by
  obtain ⟨a, vs, rfl, r, q⟩ := h.list e
  rw [asInts_eq hn] at q
  rw [Reps.ofInts q] at r
  exact ⟨a, rfl, r⟩
theorem RdX.intsT {ds : List D} {ns : List Int} {x : V} (e : Ex F H) (h : RdX c F H (.tuple ds) x) (hn : asInts ds = some ns) : ∃ a, x = .ref a ∧ SqT c.K H a (ns.map V.int) := by
  obtain ⟨a, vs, rfl, r, q, _⟩ := h.tuple e
  rw [asInts_eq hn] at q
  rw [Reps.ofInts q] at r
  exact ⟨a, rfl, r⟩
def rLenD : List V → Hp → VK → Prop := fun xs H Q => ∃ a, xs = [.ref a] ∧ ((∃ ws, Rd H a (.dK ws) ∧ Q (.int (ws.length : Nat)) H) ∨ ∃ ws, Rd H a (.dT ws) ∧ Q (.int (ws.length : Nat)) H)
theorem call_lenDR : CallR X (.builtin "len") rLenD := by
  intro pins s σ H xs us Q I r h
  obtain ⟨a, rfl, h⟩ := h
  obtain ⟨u, rfl, rx⟩ := vals1 r
  obtain rfl : u = .ref a := rx
  rcases h with ⟨ws, e, q⟩ | ⟨ws, e, q⟩
  · exact d_len I e fun t s' I' => ⟨.int _, H, I', ⟨_, rfl⟩, q⟩
  · obtain ⟨z, hd, ys, rel, dd⟩ := dt_rd I.hok e
    have hl : ws.length = ys.length := Paired.length rel
    refine call_len_dictH hd dd (by rw [← hl]; rw [sizeLine_eq] at z; omega) ?_
    rw [← hl]
    exact ⟨.int ((ws.length : Nat) : Int), H, I.tok _, ⟨_, rfl⟩, q⟩
abbrev rLenA (K : Frag) : List V → Hp → VK → Prop := fun xs H Q => (∃ p ys, xs = [.ref p] ∧ (SqL K H p ys ∨ SqT K H p ys) ∧ Q (.int ys.length) H) ∨ ((∃ z, xs = [.str z] ∧ z.length ≤ sizeLine ∧ Q (.int z.length) H) ∨ rLenD xs H Q)
theorem c_len : CallR X (.builtin "len") (rLenA X.K) := CallR.or call_len_seq (CallR.or call_len_str call_lenDR)
theorem D_len : CallD c (rLenA c.K) fLen := by
  intro F H ds xs res Q e h hf
  match ds, h, hf with
  | [.none], _, hf => simp [fLen, asDct, scrOf] at hf
  | [.bool _], _, hf => simp [fLen, asDct, scrOf] at hf
  | [.int _], _, hf => simp [fLen, asDct, scrOf] at hf
  | [.list ys], h, hf =>
    cases hf
    obtain ⟨x, rfl, g⟩ := h.one
    obtain ⟨a, vs, rfl, r, q⟩ := g.list e
    exact ⟨sv, fun k => .inl ⟨a, vs, rfl, .inl (.inl r), by rw [q.length]; exact k.here e (.int _)⟩⟩
  | [.tuple ys], h, hf =>
    cases hf
    obtain ⟨x, rfl, g⟩ := h.one
    obtain ⟨a, vs, rfl, r, q, _⟩ := g.tuple e
    exact ⟨sv, fun k => .inl ⟨a, vs, rfl, .inr r, by rw [q.length]; exact k.here e (.int _)⟩⟩
  | [.str s], h, hf =>
    simp only [fLen] at hf
    split at hf
    · rename_i hl
      cases hf
      obtain ⟨x, rfl, g⟩ := h.one
      exact ⟨sv, fun k => .inr (.inl ⟨s, by rw [g.str], lineOk_le hl, k.here e (.int _)⟩)⟩
    · cases hf
  | [.dict ps], h, hf =>
    simp only [fLen] at hf
    split at hf
    · rename_i xs ha
      cases hf
      obtain ⟨x, rfl, g⟩ := h.one
      rw [scrOf_eq ha] at g
      obtain ⟨a, vs, rfl, r, q⟩ := RdX.scr e g
      exact ⟨sv, fun k => .inl ⟨a, vs, rfl, .inl r, by rw [q.length]; exact k.here e (.int _)⟩⟩
    split at hf
    · rename_i u kvs ha
      cases hf
      obtain ⟨x, rfl, g⟩ := h.one
      have := asDct_eq ha
      rw [this] at g
      refine ⟨sv, fun k => .inr (.inr ?_)⟩
      rcases g.dict e with ⟨a, ws, _, rfl, r, q⟩ | ⟨a, ws, _, rfl, r, q⟩
      · exact ⟨a, rfl, .inl ⟨ws, r, by rw [q.length]; exact k.here e (.int _)⟩⟩
      · exact ⟨a, rfl, .inr ⟨ws, r, by rw [q.length]; exact k.here e (.int _)⟩⟩
    · cases hf
theorem D_abs : CallD c (fun xs H Q => ∃ i, xs = [.int i] ∧ Q (.int (if i < 0 then -i else i)) H) fAbs := by
  intro F H ds xs res Q e h hf
  match ds, h, hf with
  | [.int i], h, hf =>
    cases hf
    obtain ⟨x, rfl, g⟩ := h.one
    exact ⟨sv, fun k => ⟨i, by rw [g.int], k.here e (.int _)⟩⟩
theorem D_int : CallD c (fun xs H Q => (∃ i, xs = [.int i] ∧ Q (.int i) H) ∨ ∃ k, xs = [.bl k] ∧ Q (.int (if k then 1 else 0)) H) fInt := by
  intro F H ds xs res Q e h hf
  match ds, h, hf with
  | [.int i], h, hf =>
    cases hf
    obtain ⟨x, rfl, g⟩ := h.one
    exact ⟨sv, fun k => .inl ⟨i, by rw [g.int], k.here e (.int _)⟩⟩
  | [.bool b], h, hf =>
    cases hf
    obtain ⟨x, rfl, g⟩ := h.one
    exact ⟨sv, fun k => .inr ⟨b, by rw [g.bool], k.here e (.int _)⟩⟩
abbrev rMaxA (K : Frag) : List V → Hp → VK → Prop := fun xs H Q => (∃ i j, xs = [.int i, .int j] ∧ Q (.int (if j > i then j else i)) H) ∨ (rMax K xs H Q ∨ (rMaxT K xs H Q ∨ rMaxP K xs H Q))
theorem c_max (hc : X.calm = true) (hu : X.A.units + 64 < cLine) : CallR X (.builtin "max") (rMaxA X.K) := CallR.or (call_max2 hc) (CallR.or (cr_max hc) (CallR.or (cr_maxT hc) (cr_maxP hc hu)))
theorem D_max : CallD c (rMaxA c.K) fMax := by
  intro F H ds xs res Q e h hf
  match ds, h, hf with
  | [.int i, .int j], h, hf =>
    cases hf
    obtain ⟨x, y, rfl, g, g'⟩ := h.two
    exact ⟨sv, fun k => .inl ⟨i, j, by rw [g.int, g'.int], k.here e (.int _)⟩⟩
  | [.list ds], h, hf =>
    simp only [fMax] at hf
    split at hf
    · rename_i n ns ha
      cases hf
      obtain ⟨x, rfl, g⟩ := h.one
      obtain ⟨a, rfl, r⟩ := g.ints e ha
      refine ⟨sv, fun k => .inr (.inl ⟨a, n :: ns, rfl, .inl r, Nat.succ_pos _, fun m hm hle => ?_⟩)⟩
      have e1 := hle _ (mostI_mem ns n)
      have e2 : m ≤ mostI n ns := by
        rcases List.mem_cons.mp hm with rfl | hm
        · exact (mostI_le ns _).1
        · exact (mostI_le ns n).2 m hm
      have e3 : m = mostI n ns := by omega
      rw [e3]
      exact k.here e (.int _)
    · cases hm : maxP ds with
      | none => rw [hm] at hf; cases hf
      | some m =>
        rw [hm] at hf
        cases hf
        obtain ⟨x, rfl, g⟩ := h.one
        obtain ⟨a, vs, rfl, r, q⟩ := g.list e
        exact ⟨sv, fun k => .inr (.inr (.inr (maxP_ok e hm (.inl (.inl r)) q fun z rz => k.here e rz)))⟩
  | [.tuple ds], h, hf =>
    simp only [fMax] at hf
    split at hf
    · rename_i n ns ha
      cases hf
      obtain ⟨x, rfl, g⟩ := h.one
      obtain ⟨a, rfl, r⟩ := g.intsT e ha
      refine ⟨sv, fun k => .inr (.inr (.inl ⟨a, n :: ns, rfl, r, Nat.succ_pos _, fun m hm hle => ?_⟩))⟩
      have e1 := hle _ (mostI_mem ns n)
      have e2 : m ≤ mostI n ns := by
        rcases List.mem_cons.mp hm with rfl | hm
        · exact (mostI_le ns _).1
        · exact (mostI_le ns n).2 m hm
      have e3 : m = mostI n ns := by omega
      rw [e3]
      exact k.here e (.int _)
    · cases hm : maxP ds with
      | none => rw [hm] at hf; cases hf
      | some m =>
        rw [hm] at hf
        cases hf
        obtain ⟨x, rfl, g⟩ := h.one
        obtain ⟨a, vs, rfl, r, q, _⟩ := g.tuple e
        exact ⟨sv, fun k => .inr (.inr (.inr (maxP_ok e hm (.inr r) q fun z rz => k.here e rz)))⟩
abbrev rMinA (K : Frag) : List V → Hp → VK → Prop := fun xs H Q => (∃ i j, xs = [.int i, .int j] ∧ Q (.int (if j < i then j else i)) H) ∨ (rMin K xs H Q ∨ (rMinT K xs H Q ∨ rMinP K xs H Q))
theorem c_min (hc : X.calm = true) (hu : X.A.units + 64 < cLine) : CallR X (.builtin "min") (rMinA X.K) := CallR.or (call_min2 hc) (CallR.or (cr_min hc) (CallR.or (cr_minT hc) (cr_minP hc hu)))
theorem D_min : CallD c (rMinA c.K) fMin := by
  intro F H ds xs res Q e h hf
  match ds, h, hf with
  | [.int i, .int j], h, hf =>
    cases hf
    obtain ⟨x, y, rfl, g, g'⟩ := h.two
    exact ⟨sv, fun k => .inl ⟨i, j, by rw [g.int, g'.int], k.here e (.int _)⟩⟩
  | [.list ds], h, hf =>
    simp only [fMin] at hf
    split at hf
    · rename_i n ns ha
      cases hf
      obtain ⟨x, rfl, g⟩ := h.one
      obtain ⟨a, rfl, r⟩ := g.ints e ha
      refine ⟨sv, fun k => .inr (.inl ⟨a, n :: ns, rfl, .inl r, Nat.succ_pos _, fun m hm hle => ?_⟩)⟩
      have e1 := hle _ (leastI_mem ns n)
      have e2 : leastI n ns ≤ m := by
        rcases List.mem_cons.mp hm with rfl | hm
        · exact (leastI_le ns _).1
        · exact (leastI_le ns n).2 m hm
      have e3 : m = leastI n ns := by omega
      rw [e3]
      exact k.here e (.int _)
    · cases hm : minP ds with
      | none => rw [hm] at hf; cases hf
      | some m =>
        rw [hm] at hf
        cases hf
        obtain ⟨x, rfl, g⟩ := h.one
        obtain ⟨a, vs, rfl, r, q⟩ := g.list e
        exact ⟨sv, fun k => .inr (.inr (.inr (minP_ok e hm (.inl (.inl r)) q fun z rz => k.here e rz)))⟩
  | [.tuple ds], h, hf =>
    simp only [fMin] at hf
    split at hf
    · rename_i n ns ha
      cases hf
      obtain ⟨x, rfl, g⟩ := h.one
      obtain ⟨a, rfl, r⟩ := g.intsT e ha
      refine ⟨sv, fun k => .inr (.inr (.inl ⟨a, n :: ns, rfl, r, Nat.succ_pos _, fun m hm hle => ?_⟩))⟩
      have e1 := hle _ (leastI_mem ns n)
      have e2 : leastI n ns ≤ m := by
        rcases List.mem_cons.mp hm with rfl | hm
        · exact (leastI_le ns _).1
        · exact (leastI_le ns n).2 m hm
      have e3 : m = leastI n ns := by omega
      rw [e3]
      exact k.here e (.int _)
    · cases hm : minP ds with
      | none => rw [hm] at hf; cases hf
      | some m =>
        rw [hm] at hf
        cases hf
        obtain ⟨x, rfl, g⟩ := h.one
        obtain ⟨a, vs, rfl, r, q, _⟩ := g.tuple e
        exact ⟨sv, fun k => .inr (.inr (.inr (minP_ok e hm (.inr r) q fun z rz => k.here e rz)))⟩
abbrev rSumA (K : Frag) : List V → Hp → VK → Prop := fun xs H Q => rSum K xs H Q ∨ rSumT K xs H Q
theorem c_sum (hc : X.calm = true) : CallR X (.builtin "sum") (rSumA X.K) := CallR.or (cr_sum hc) (cr_sumT hc)
theorem D_sum : CallD c (rSumA c.K) fSum := by
  intro F H ds xs res Q e h hf
  match ds, h, hf with
  | [.list ds], h, hf =>
    simp only [fSum] at hf
    split at hf
    · rename_i ns ha
      cases hf
      obtain ⟨x, rfl, g⟩ := h.one
      obtain ⟨a, rfl, r⟩ := g.ints e ha
      exact ⟨sv, fun k => .inl ⟨a, ns, rfl, .inl r, k.here e (.int _)⟩⟩
    · cases hf
  | [.tuple ds], h, hf =>
    simp only [fSum] at hf
    split at hf
    · rename_i ns ha
      cases hf
      obtain ⟨x, rfl, g⟩ := h.one
      obtain ⟨a, rfl, r⟩ := g.intsT e ha
      exact ⟨sv, fun k => .inr ⟨a, ns, rfl, r, k.here e (.int _)⟩⟩
    · cases hf
theorem D_list : CallD c (fun xs H Q => ∃ p ys, xs = [.ref p] ∧ (SqL c.K H p ys ∨ SqT c.K H p ys) ∧ ∀ l, H l = none → Q (.ref l) (upd H l (.lst ys))) fList := by
  intro F H ds xs res Q e h hf
  match ds, h, hf with
  | [.list ys], h, hf =>
    cases hf
    obtain ⟨x, rfl, g⟩ := h.one
    obtain ⟨a, vs, rfl, r, q⟩ := g.list e
    exact ⟨sf, fun k => ⟨a, vs, rfl, .inl (.inl r), fun p hp => k.lst e q hp⟩⟩
  | [.tuple ys], h, hf =>
    cases hf
    obtain ⟨x, rfl, g⟩ := h.one
    obtain ⟨a, vs, rfl, r, q, _⟩ := g.tuple e
    exact ⟨sf, fun k => ⟨a, vs, rfl, .inr r, fun p hp => k.lst e q hp⟩⟩
theorem D_tuple : CallD c (fun xs H Q => ∃ p ys, xs = [.ref p] ∧ ((SqL c.K H p ys ∧ ∀ l, H l = none → Q (.ref l) (upd H l (.tup ys))) ∨ (SqT c.K H p ys ∧ Q (.ref p) H))) fTuple := by
  intro F H ds xs res Q e h hf
  match ds, h, hf with
  | [.list ys], h, hf =>
    cases hf
    obtain ⟨x, rfl, g⟩ := h.one
    obtain ⟨a, vs, rfl, r, q⟩ := g.list e
    exact ⟨sv, fun k => ⟨a, vs, rfl, .inl ⟨.inl r, fun p hp => k.tup e q hp⟩⟩⟩
  | [.tuple ys], h, hf =>
    cases hf
    obtain ⟨x, rfl, g⟩ := h.one
    obtain ⟨a, vs, rfl, r, q, t⟩ := g.tuple e
    exact ⟨sv, fun k => ⟨a, vs, rfl, .inr ⟨r, k.here e (.tup t q)⟩⟩⟩
abbrev rSortA (K : Frag) : List V → Hp → VK → Prop := fun xs H Q => rSortedI K xs H Q ∨ rSortP K xs H Q
theorem c_sort (hc : X.calm = true) (hu : X.A.units + 64 < cLine) : CallR X (.builtin "sorted") (rSortA X.K) := CallR.or cr_sortedI (cr_sortP hc hu)
theorem D_sortI : CallD c (rSortA c.K) fSortI := by
  intro F H ds xs res Q e h hf
  match ds, h, hf with
  | [.list ds], h, hf =>
    simp only [fSortI] at hf
    split at hf
    · rename_i ns ha
      cases hf
      obtain ⟨x, rfl, g⟩ := h.one
      obtain ⟨a, rfl, r⟩ := g.ints e ha
      refine ⟨sf, fun k => .inl ⟨a, ns, rfl, .inl r, fun ns' p hp ho hn => ?_⟩⟩
      have e3 : ns' = sortI ns := ord_same (hp.trans (sortI_perm ns).symm) ho (sortI_ord ns)
      rw [e3]
      exact k.lst e (Reps.ints _) hn
    · cases hm : sortP ds with
      | none => rw [hm] at hf; cases hf
      | some es =>
        rw [hm] at hf
        cases hf
        obtain ⟨x, rfl, g⟩ := h.one
        obtain ⟨a, vs, rfl, r, q⟩ := g.list e
        exact ⟨sf, fun k => .inr (sortP_ok e hm (.inl r) q fun ys l rz hn => k.lst e rz hn)⟩
theorem D_gcd : CallD c rGcd fGcd := by
  intro F H ds xs res Q e h hf
  match ds, h, hf with
  | [.int i, .int j], h, hf =>
    cases hf
    obtain ⟨x, y, rfl, g, g'⟩ := h.two
    exact ⟨sv, fun k => ⟨i, j, by rw [g.int, g'.int], k.here e (.int _)⟩⟩
end
end Pd
end
section
set_option Elab.async false
set_option linter.all false
set_option maxRecDepth 100000
set_option maxHeartbeats 4000000
namespace Pd
open PySem L2

/-! ### changes of the state -/
/-- the slot tells the changed object -/
def Sl.with (d : D) : Sl → Sl
  | .o _ => .o d
  | .b _ => .b d
  | s => s
section
variable {B : Bs} {W : WX} {F H : Hp} {σ : L2.St} {ρ : Env}
theorem get_lt {α : Type} {l : List α} {i : Nat} {x : α} (h : l[i]? = some x) : i < l.length := (List.getElem?_eq_some_iff.mp h).1
/-- a value is stored in a slot -/
theorem St.setV (S : St B F σ H ρ) (i : Nat) {d : D} {v : V} (r : Rep B.c F d v) : St B F (σ.set i (some v)) H (ρ.set i (.v d)) where
  len := by rw [List.length_set, List.length_set]; exact S.len
  ex := S.ex
  sl := fun j t x h1 h2 => by
    by_cases e : i = j
    · subst e
      have a := get_lt h1
      have b := get_lt h2
      rw [List.length_set] at a b
      rw [List.getElem?_set_self a] at h1
      rw [List.getElem?_set_self b] at h2
      cases h1
      cases h2
      exact ⟨v, rfl, r⟩
    · rw [List.getElem?_set_ne e] at h1 h2
      exact S.sl j t x h1 h2
  sep := fun j k t u p h1 h2 h3 h4 h5 h6 => by
    have out : ∀ (m : Nat) (t : Sl), (ρ.set i (.v d))[m]? = some t → t.mine ≠ none → i ≠ m := fun m t e1 e2 z => by
      subst z
      have a := get_lt e1
      rw [List.length_set] at a
      rw [List.getElem?_set_self a] at e1
      cases e1
      exact e2 rfl
    have a := out j t h1 h3
    have b := out k u h2 h4
    rw [List.getElem?_set_ne a] at h1 h5
    rw [List.getElem?_set_ne b] at h2 h6
    exact S.sep j k t u p h1 h2 h3 h4 h5 h6
  keep := S.keep
  low := S.low
  new := S.new
  dom := S.dom
  iow := S.iow
  tab := S.tab
  tb0 := S.tb0
  tf := S.tf
/-- a slot's value is forgotten -/
theorem St.setU (S : St B F σ H ρ) (i : Nat) (v : Option V) : St B F (σ.set i v) H (ρ.set i .u) where
  len := by rw [List.length_set, List.length_set]; exact S.len
  ex := S.ex
  sl := fun j t x h1 h2 => by
    by_cases e : i = j
    · subst e
      have a := get_lt h1
      rw [List.length_set] at a
      rw [List.getElem?_set_self a] at h1
      cases h1
      exact True.intro
    · rw [List.getElem?_set_ne e] at h1 h2
      exact S.sl j t x h1 h2
  sep := fun j k t u p h1 h2 h3 h4 h5 h6 => by
    have out : ∀ (m : Nat) (t : Sl), (ρ.set i .u)[m]? = some t → t.mine ≠ none → i ≠ m := fun m t e1 e2 z => by
      subst z
      have a := get_lt e1
      rw [List.length_set] at a
      rw [List.getElem?_set_self a] at e1
      cases e1
      exact e2 rfl
    have a := out j t h1 h3
    have b := out k u h2 h4
    rw [List.getElem?_set_ne a] at h1 h5
    rw [List.getElem?_set_ne b] at h2 h6
    exact S.sep j k t u p h1 h2 h3 h4 h5 h6
  keep := S.keep
  low := S.low
  new := S.new
  dom := S.dom
  iow := S.iow
  tab := S.tab
  tb0 := S.tb0
  tf := S.tf
/-- a new own object is stored in a slot -/
theorem St.setO (S : St B F σ H ρ) (i : Nat) {d : D} {p : Addr} (hp : F p = none) (h0 : B.H0 p = none) (ho : Own B.c F H p d) (hs : ∀ (i : Nat) (s : Sl), ρ[i]? = some s → s.mine ≠ none → σ[i]? ≠ some (some (.ref p))) :
    St B F (σ.set i (some (.ref p))) H (ρ.set i (.o d)) where
  len := by rw [List.length_set, List.length_set]; exact S.len
  ex := S.ex
  sl := fun j t x h1 h2 => by
    by_cases e : i = j
    · subst e
      have a := get_lt h1
      have b := get_lt h2
      rw [List.length_set] at a b
      rw [List.getElem?_set_self a] at h1
      rw [List.getElem?_set_self b] at h2
      cases h1
      cases h2
      exact ⟨p, rfl, hp, h0, ho⟩
    · rw [List.getElem?_set_ne e] at h1 h2
      exact S.sl j t x h1 h2
  sep := fun j k t u q h1 h2 h3 h4 h5 h6 => by
    have at_ : ∀ (m : Nat), (σ.set i (some (V.ref p)))[m]? = some (some (.ref q)) → i = m → q = p := fun m e1 z => by
      subst z
      have a := get_lt e1
      rw [List.length_set] at a
      rw [List.getElem?_set_self a] at e1
      cases e1
      rfl
    by_cases a : i = j
    · by_cases b : i = k
      · exact a.symm.trans b
      · have e := at_ j h5 a
        subst e
        rw [List.getElem?_set_ne b] at h2 h6
        exact absurd h6 (hs k u h2 h4)
    · by_cases b : i = k
      · have e := at_ k h6 b
        subst e
        rw [List.getElem?_set_ne a] at h1 h5
        exact absurd h5 (hs j t h1 h3)
      · rw [List.getElem?_set_ne a] at h1 h5
        rw [List.getElem?_set_ne b] at h2 h6
        exact S.sep j k t u q h1 h2 h3 h4 h5 h6
  keep := S.keep
  low := S.low
  new := S.new
  dom := S.dom
  iow := S.iow
  tab := S.tab
  tb0 := S.tb0
  tf := S.tf
/-- the own object of slot i is changed -/
theorem St.mut (S : St B F σ H ρ) {i : Nat} {s : Sl} {d d' : D} {p : Addr} {o : HO} (hi : ρ[i]? = some s) (hm : s.mine = some d) (hσ : σ[i]? = some (some (.ref p))) (ho : Own B.c F (upd H p o) p d') :
    St B F σ (upd H p o) (ρ.set i (s.with d')) := by
  have q := S.sl i s _ hi hσ
  obtain ⟨a, e1, hp, ho0⟩ := q.mine hm
  cases e1
  have hmine : (s.with d').mine = some d' := by cases s <;> first | rfl | cases hm
  have li := get_lt hi
  have other : ∀ (j : Nat) (t : Sl) (x : Option V), i ≠ j → SlOk B F H j t x → ρ[j]? = some t → σ[j]? = some x → SlOk B F (upd H p o) j t x := fun j t x ne q h1 h2 => by
    have apart : ∀ a : Addr, x = some (.ref a) → t.mine ≠ none → a ≠ p := fun a e2 e3 z => by
      subst z
      exact ne (S.sep i j s t a hi h1 (by rw [hm]; exact Option.some_ne_none _) e3 hσ (by rw [h2, e2]))
    cases t with
    | u => exact True.intro
    | v d => exact q
    | o d =>
      obtain ⟨a, e1, e2, e3, e4⟩ := q
      exact ⟨a, e1, e2, e3, e4.ex (Ex.refl F) (upd_ne (apart a e1 (by intro z; cases z)))⟩
    | b d =>
      obtain ⟨a, e1, e2, e3, e4⟩ := q
      exact ⟨a, e1, e2, e3, e4.ex (Ex.refl F) (upd_ne (apart a e1 (by intro z; cases z)))⟩
    | e n => exact q
  refine ⟨by rw [List.length_set]; exact S.len, S.ex.put hp, fun j t x h1 h2 => ?_, fun j k t u p' h1 h2 h3 h4 h5 h6 => ?_, fun b ob h1 h2 h9 => ?_, S.low, S.new, fun b h => ?_, S.iow, S.tab.keep fun b ob z e => ?_, S.tb0, S.tf⟩
  · by_cases ne : i = j
    · subst ne
      rw [List.getElem?_set_self li] at h1
      cases h1
      rw [hσ] at h2
      cases h2
      cases s with
      | u => cases hm
      | v _ => cases hm
      | e _ => cases hm
      | o _ => obtain ⟨a, e1, e2, e3, e4⟩ := q; cases e1; exact ⟨p, rfl, e2, e3, ho⟩
      | b _ => obtain ⟨a, e1, e2, e3, e4⟩ := q; cases e1; exact ⟨p, rfl, e2, e3, ho⟩
    · rw [List.getElem?_set_ne ne] at h1
      exact other j t x ne (S.sl j t x h1 h2) h1 h2
  · have back : ∀ (m : Nat) (t : Sl), (ρ.set i (s.with d'))[m]? = some t → t.mine ≠ none → ∃ t', ρ[m]? = some t' ∧ t'.mine ≠ none := fun m t e1 e2 => by
      by_cases ne : i = m
      · subst ne
        exact ⟨s, hi, by rw [hm]; exact Option.some_ne_none _⟩
      · rw [List.getElem?_set_ne ne] at e1
        exact ⟨t, e1, e2⟩
    obtain ⟨t', a1, a2⟩ := back j t h1 h3
    obtain ⟨u', b1, b2⟩ := back k u h2 h4
    exact S.sep j k t' u' p' a1 b1 a2 b2 h5 h6
  · have hne : b ≠ p := fun z => by
      subst z
      cases s with
      | u => cases hm
      | v _ => cases hm
      | e _ => cases hm
      | o _ => obtain ⟨a, e1, e2, e3, e4⟩ := q; cases e1; rw [e3] at h1; cases h1
      | b _ => obtain ⟨a, e1, e2, e3, e4⟩ := q; cases e1; exact h2 i e3
    rw [upd_ne hne]
    exact S.keep b ob h1 h2 h9
  · by_cases hne : b = p
    · rw [hne, upd_same]; exact Option.some_ne_none _
    · rw [upd_ne hne]; exact S.dom b h
  · have hne : b ≠ p := fun y => by
      subst y
      cases s with
      | u => cases hm
      | v _ => cases hm
      | e _ => cases hm
      | o _ => obtain ⟨a, e1, e2, e3, e4⟩ := q; cases e1; exact e4.notbl S.tab z
      | b _ => obtain ⟨a, e1, e2, e3, e4⟩ := q; cases e1; exact e4.notbl S.tab z
    rw [upd_ne hne]
    exact e
end

/-! ### statements -/
inductive SOut where
  | nx (ρ : Env) | rt (r : Res) (ρ : Env) | bk (ρ : Env) | ct (ρ : Env) | ex (c : String) (ρ : Env) | bad
abbrev Sv := Env → SOut
def SOk (B : Bs) (W : WX) (F : Hp) (D : Ends) : SOut → Prop
  | .nx ρ => ∀ F' σ' H', Ex F F' → St B F' σ' H' ρ → D.nx σ' H'
  | .rt r ρ => ∀ F' σ' H' x, Ex F F' → St B F' σ' H' ρ → ResOk B F' σ' H' ρ r x → D.rt x H'
  | .bk ρ => ∀ F' σ' H', Ex F F' → St B F' σ' H' ρ → D.bk σ' H'
  | .ct ρ => ∀ F' σ' H', Ex F F' → St B F' σ' H' ρ → D.ct σ' H'
  | .ex c ρ => ∀ F' σ' H', Ex F F' → St B F' σ' H' ρ → W (.ref (B.ec c)) none σ' H'
  | .bad => False
def tS (B : Bs) (W : WX) (e : Sv) : TS := fun D σ H => ∃ F ρ, St B F σ H ρ ∧ SOk B W F D (e ρ)
abbrev PSD (X : Cx) (B : Bs) (W : WX) (st : Stmt) (e : Sv) : Prop := PS X st (tS B W e)
abbrev PSsD (X : Cx) (B : Bs) (W : WX) (st : List Stmt) (e : Sv) : Prop := PSs X st (tS B W e)
theorem ps_wk {X : Cx} {st : Stmt} {t t' : TS} (h : PS X st t) (k : ∀ D σ H, t' D σ H → t D σ H) : PS X st t' := ⟨fun pins s σ H D I q => h.run pins s σ H D I (k D σ H q)⟩
theorem pss_wk {X : Cx} {st : List Stmt} {t t' : TS} (h : PSs X st t) (k : ∀ D σ H, t' D σ H → t D σ H) : PSs X st t' := ⟨fun pins s σ H D I q => h.run pins s σ H D I (k D σ H q)⟩
section
variable {B : Bs} {W : WX} {F F1 H : Hp} {σ : L2.St} {ρ : Env} {D : Ends}
theorem SOk.mono {o : SOut} (e : Ex F F1) (h : SOk B W F D o) : SOk B W F1 D o := by
  cases o with
  | nx ρ => exact fun F' σ' H' e' => h F' σ' H' (e.trans e')
  | rt r ρ => exact fun F' σ' H' x e' => h F' σ' H' x (e.trans e')
  | bk ρ => exact fun F' σ' H' e' => h F' σ' H' (e.trans e')
  | ct ρ => exact fun F' σ' H' e' => h F' σ' H' (e.trans e')
  | ex c ρ => exact fun F' σ' H' e' => h F' σ' H' (e.trans e')
  | bad => exact h
/-- an expression's outcome goes on as a statement -/
def Out.bdS : Out → (Res → Env → SOut) → SOut
  | .ok r ρ, k => k r ρ
  | .ex c ρ, _ => .ex c ρ
  | .bad, _ => .bad
def OutT.bdS : OutT → (Bool → Env → SOut) → SOut
  | .ok r ρ, k => k r ρ
  | .ex c ρ, _ => .ex c ρ
  | .bad, _ => .bad
theorem bdS_ok {a : Ev} {k : Res → Env → SOut} {R : VK} (S : St B F σ H ρ) (h : SOk B W F D ((a ρ).bdS k))
    (step : ∀ r ρ1 F1 H1 x, Ex F F1 → St B F1 σ H1 ρ1 → ResOk B F1 σ H1 ρ1 r x → SOk B W F1 D (k r ρ1) → R x H1) : tE B W a σ H R := by
  refine ⟨F, ρ, S, ?_⟩
  cases e : a ρ with
  | ok r ρ1 => rw [e] at h; exact fun F1 H1 x e1 S1 R1 => step r ρ1 F1 H1 x e1 S1 R1 (SOk.mono e1 h)
  | ex c ρ1 => rw [e] at h; exact fun F' H' e' S' => h F' σ H' e' S'
  | bad => rw [e] at h; exact h
theorem tbdS_ok {a : EvT} {k : Bool → Env → SOut} {R : Bool → Hp → Prop} (S : St B F σ H ρ) (h : SOk B W F D ((a ρ).bdS k))
    (step : ∀ r ρ1 F1 H1, Ex F F1 → St B F1 σ H1 ρ1 → SOk B W F1 D (k r ρ1) → R r H1) : tT B W a σ H R := by
  refine ⟨F, ρ, S, ?_⟩
  cases e : a ρ with
  | ok r ρ1 => rw [e] at h; exact fun F1 H1 e1 S1 => step r ρ1 F1 H1 e1 S1 (SOk.mono e1 h)
  | ex c ρ1 => rw [e] at h; exact fun F' H' e' S' => h F' σ H' e' S'
  | bad => rw [e] at h; exact h
end

/-- a statement, then the rest -/
def sSeq (a b : Sv) : Sv := fun ρ => match a ρ with
  | .nx ρ1 => b ρ1
  | o => o
def sNx : Sv := fun ρ => .nx ρ
def sRet (a : Ev) : Sv := fun ρ => (a ρ).bdS fun r ρ1 => .rt r ρ1
def sRetN : Sv := fun ρ => .rt (.v .none) ρ
def sDrop (a : Ev) : Sv := fun ρ => (a ρ).bdS fun _ ρ1 => .nx ρ1
def sIf (t : EvT) (a b : Sv) : Sv := fun ρ => (t ρ).bdS fun k ρ1 => match k with
  | true => a ρ1
  | false => b ρ1
def setR (ρ : Env) (i : Nat) : Res → Option Env
  | .v d => some (ρ.set i (.v d))
  | .f d => some (ρ.set i (.o d))
  | .s j => match frzR ρ (.s j) with
    | some (d, ρ') => some (ρ'.set i (.v d))
    | none => none
def sSet (i : Nat) (a : Ev) : Sv := fun ρ => (a ρ).bdS fun r ρ1 => match setR ρ1 i r with
  | some ρ2 => .nx ρ2
  | none => .bad
def sBk : Sv := fun ρ => .bk ρ
def sCt : Sv := fun ρ => .ct ρ
section
variable {X : Cx} {B : Bs} {W : WX} {x y z : Expr} {st : Stmt} {rest : List Stmt} {a b d : Ev} {s t : Sv} {pos : Pos} {D : Ends} {σ : L2.St} {H F : Hp} {ρ : Env}
theorem seq_ok (h : tS B W (sSeq s t) D σ H) : tS B W s { D with nx := tS B W t D } σ H := by
  obtain ⟨F, ρ, S, h⟩ := h
  refine ⟨F, ρ, S, ?_⟩
  unfold sSeq at h
  cases e : s ρ with
  | nx ρ1 => rw [e] at h; exact fun F' σ' H' e' S' => ⟨F', ρ1, S', SOk.mono e' h⟩
  | rt r ρ1 => rw [e] at h; exact h
  | bk ρ1 => rw [e] at h; exact h
  | ct ρ1 => rw [e] at h; exact h
  | ex c ρ1 => rw [e] at h; exact h
  | bad => rw [e] at h; exact h
theorem s_nil : PSsD X B W [] sNx := pss_wk pss_nil fun D σ H ⟨F, ρ, S, h⟩ => h F σ H (Ex.refl F) S
theorem s_cons (h1 : PSD X B W st s) (h2 : PSsD X B W rest t) : PSsD X B W (st :: rest) (sSeq s t) := pss_wk (pss_cons h1 h2) fun D σ H h => seq_ok h
theorem s_one (h : PSD X B W st s) : PSsD X B W [st] s := pss_one h
theorem s_pass : PSD X B W (.Pass pos) sNx := ps_wk ps_pass fun D σ H ⟨F, ρ, S, h⟩ => h F σ H (Ex.refl F) S
theorem s_break : PSD X B W (.Break pos) sBk := ps_wk ps_break fun D σ H ⟨F, ρ, S, h⟩ => h F σ H (Ex.refl F) S
theorem s_continue : PSD X B W (.Continue pos) sCt := ps_wk ps_continue fun D σ H ⟨F, ρ, S, h⟩ => h F σ H (Ex.refl F) S
theorem s_ret (ha : PED X B W x a) : PSD X B W (.Return (some x) pos) (sRet a) := ps_wk (ps_ret ha) fun D σ H ⟨F, ρ, S, h⟩ =>
  bdS_ok S h fun r ρ1 F1 H1 x e1 S1 R1 h1 => h1 F1 σ H1 x (Ex.refl _) S1 R1
theorem s_retN : PSD X B W (.Return none pos) sRetN := ps_wk ps_retN fun D σ H ⟨F, ρ, S, h⟩ => h F σ H .non (Ex.refl F) S .non
theorem s_drop (ha : PED X B W x a) (hs : swapsWith x none pos.line X.env = pure false := by rfl) : PSD X B W (.Expr x pos) (sDrop a) := ps_wk (ps_expr ha hs) fun D σ H ⟨F, ρ, S, h⟩ =>
  bdS_ok S h fun r ρ1 F1 H1 x e1 S1 R1 h1 => h1 F1 σ H1 (Ex.refl _) S1
theorem s_if {c : Expr} {k : EvT} {l m : List Stmt} (hc : PTD X B W c k) (h1 : PSsD X B W l s) (h2 : PSsD X B W m t) : PSD X B W (.If c l m pos) (sIf k s t) := ps_wk (ps_if hc h1 h2) fun D σ H ⟨F, ρ, S, h⟩ =>
  tbdS_ok S h fun r ρ1 F1 H1 e1 S1 h1 => by
    cases r with
    | true => rw [if_pos rfl]; exact ⟨F1, ρ1, S1, h1⟩
    | false => rw [if_neg Bool.false_ne_true]; exact ⟨F1, ρ1, S1, h1⟩
theorem setR_ok {r : Res} {v : V} {i : Nat} {ρ' : Env} (S : St B F σ H ρ) (R : ResOk B F σ H ρ r v) (h : setR ρ i r = some ρ') : ∃ F', Ex F F' ∧ St B F' (σ.set i (some v)) H ρ' := by
  cases r with
  | v d => cases h; exact ⟨F, Ex.refl F, S.setV i R⟩
  | f d =>
    cases h
    obtain ⟨p, rfl, hp, h0, ho, hs⟩ := R
    exact ⟨F, Ex.refl F, S.setO i hp h0 ho hs⟩
  | s j =>
    simp only [setR] at h
    cases e : frzR ρ (.s j) with
    | none => rw [e] at h; cases h
    | some q =>
      obtain ⟨d, ρ1⟩ := q
      rw [e] at h
      cases h
      obtain ⟨F1, e1, S1, r1⟩ := frzR_ok S R e
      exact ⟨F1, e1, S1.setV i r1⟩
theorem set_ok {i : Nat} (h : tS B W (sSet i a) D σ H) : tAsg (tE B W a) (gName i) D σ H := by
  obtain ⟨F, ρ, S, h⟩ := h
  refine bdS_ok S h fun r ρ1 F1 H1 x e1 S1 R1 h1 => ?_
  cases e : setR ρ1 i r with
  | none => simp only [e] at h1; exact h1.elim
  | some ρ2 =>
    simp only [e] at h1
    obtain ⟨F2, e2, S2⟩ := setR_ok S1 R1 e
    exact h1 F2 _ H1 e2 S2
theorem s_set {i : Nat} {nm : Str} {pos' : Pos} (hN : X.N.Nodup) (hi : X.N[i]? = some nm) (hx : Loc X.env.scope nm) (ha : PED X B W x a) (hs : swapsWith x (some (.Name nm pos')) pos.line X.env = pure false := by rfl)
    (hf : X.fn nm = true ∨ X.env.scope.names.lookup nm = some .local := by first | exact .inl rfl | exact .inr rfl | assumption) : PSD X B W (.Assign [.Name nm pos'] x pos) (sSet i a) :=
  ps_wk (ps_set hN hi hx ha hs hf) fun D σ H h => set_ok h
end
end Pd
end
section
set_option Elab.async false
set_option linter.all false
set_option maxRecDepth 100000
set_option maxHeartbeats 4000000
namespace Pd
open PySem L2

/-! ### targets -/
abbrev Tg := D → Env → Option Env
def tgN (i : Nat) : Tg := fun d ρ => some (ρ.set i (.v d))
def goT : List Tg → List D → Env → Option Env
  | [], [], ρ => some ρ
  | t :: ts, d :: ds, ρ => match t d ρ with
    | some ρ1 => goT ts ds ρ1
    | none => none
  | _, _, _ => none
def tgT (ts : List Tg) : Tg := fun d ρ => match d with
  | .tuple ds => goT ts ds ρ
  | .list ds => goT ts ds ρ
  | _ => none
/-- only the slots ws may differ -/
structure Same (ws : List Nat) (σ σ' : L2.St) : Prop where
  len : σ'.length = σ.length
  at_ : ∀ j, j ∉ ws → σ'[j]? = σ[j]?
theorem Same.refl {ws : List Nat} {σ : L2.St} : Same ws σ σ := ⟨rfl, fun _ _ => rfl⟩
theorem Same.trans {ws vs : List Nat} {σ σ1 σ2 : L2.St} (a : Same ws σ σ1) (b : Same vs σ1 σ2) : Same (ws ++ vs) σ σ2 :=
  ⟨b.len.trans a.len, fun j h => by rw [List.mem_append, not_or] at h; rw [b.at_ j h.2, a.at_ j h.1]⟩
theorem Same.set {i : Nat} {x : Option V} {σ : L2.St} : Same [i] σ (σ.set i x) := ⟨List.length_set, fun j h => List.getElem?_set_ne fun z => h (by simp [z])⟩
def tG (B : Bs) (ws : List Nat) (t : Tg) : TG := fun v σ H Q => ∃ F ρ d ρ', St B F σ H ρ ∧ Rep B.c F d v ∧ t d ρ = some ρ' ∧ ∀ σ', Same ws σ σ' → St B F σ' H ρ' → Q σ' H
def tGs (B : Bs) (ws : List Nat) (ts : List Tg) : TGs := fun vs σ H Q => ∃ F ρ ds ρ', St B F σ H ρ ∧ Reps B.c F ds vs ∧ goT ts ds ρ = some ρ' ∧ ∀ σ', Same ws σ σ' → St B F σ' H ρ' → Q σ' H
/-- unpacking: the outermost object may be one's own -/
def tGX (B : Bs) (ws : List Nat) (ts : List Tg) : TG := fun v σ H Q => ∃ F ρ d ρ', St B F σ H ρ ∧ RdX B.c F H d v ∧ tgT ts d ρ = some ρ' ∧ ∀ σ', Same ws σ σ' → St B F σ' H ρ' → Q σ' H
abbrev PGD (X : Cx) (B : Bs) (tg : Expr) (ws : List Nat) (t : Tg) : Prop := PG X tg (tG B ws t)
abbrev PGsD (X : Cx) (B : Bs) (tg : List Expr) (ws : List Nat) (t : List Tg) : Prop := PGs X tg (tGs B ws t)
theorem pg_wk {X : Cx} {e : Expr} {t t' : TG} (h : PG X e t) (k : ∀ v σ H Q, t' v σ H Q → t v σ H Q) : PG X e t' := ⟨fun pins s σ H v u Q I r q => h.run pins s σ H v u Q I r (k v σ H Q q)⟩
theorem pgs_wk {X : Cx} {e : List Expr} {t t' : TGs} (h : PGs X e t) (k : ∀ v σ H Q, t' v σ H Q → t v σ H Q) : PGs X e t' := ⟨fun pins s σ H v u Q I r q => h.run pins s σ H v u Q I r (k v σ H Q q)⟩
theorem pg_or {X : Cx} {e : Expr} {t u : TG} (h : PG X e t) (h' : PG X e u) : PG X e (fun v σ H Q => t v σ H Q ∨ u v σ H Q) := ⟨fun pins s σ H v w Q I r q => by
  rcases q with q | q
  · exact h.run pins s σ H v w Q I r q
  · exact h'.run pins s σ H v w Q I r q⟩
theorem goT_len : ∀ {ts : List Tg} {ds : List D} {ρ ρ' : Env}, goT ts ds ρ = some ρ' → ts.length = ds.length
  | [], [], _, _, _ => rfl
  | [], _ :: _, _, _, h => by simp [goT] at h
  | _ :: _, [], _, _, h => by simp [goT] at h
  | t :: ts, d :: ds, ρ, ρ', h => by
    simp only [goT] at h
    split at h
    · rw [List.length_cons, List.length_cons, goT_len h]
    · cases h
section
variable {X : Cx} {B : Bs} {W : WX} {x y z : Expr} {es : List Expr} {st : Stmt} {rest : List Stmt} {a b d : Ev} {s t : Sv} {pos : Pos} {D' : Ends} {σ : L2.St} {H F : Hp} {ρ : Env}
theorem g_name {i : Nat} {nm : Str} (hN : X.N.Nodup) (hi : X.N[i]? = some nm) (hx : Loc X.env.scope nm) (hf : X.fn nm = true ∨ X.env.scope.names.lookup nm = some .local := by first | exact .inl rfl | exact .inr rfl | assumption) : PGD X B (.Name nm pos) [i] (tgN i) :=
  pg_wk (pg_name hN hi hx hf) fun v σ H Q ⟨F, ρ, d, ρ', S, r, e, k⟩ => by
    cases e
    exact k _ Same.set (S.setV i r)
theorem g_nil : PGsD X B [] [] [] := pgs_wk pgs_nil fun v σ H Q ⟨F, ρ, ds, ρ', S, r, e, k⟩ => by
  cases r with
  | nil => cases e; exact ⟨rfl, k σ Same.refl S⟩
  | cons _ _ => simp [goT] at e
theorem g_cons {u : Tg} {us : List Tg} {ws vs : List Nat} (h1 : PGD X B x ws u) (h2 : PGsD X B es vs us)
    (hs : (assignEach (x :: es) X.env).map (·.2) = assign x X.env :: (assignEach es X.env).map (·.2) := by rfl) : PGsD X B (x :: es) (ws ++ vs) (u :: us) :=
  pgs_wk (pgs_cons h1 h2 hs) fun v σ H Q ⟨F, ρ, ds, ρ', S, r, e, k⟩ => by
    cases r with
    | nil => simp [goT] at e
    | cons r1 r2 =>
      simp only [goT] at e
      split at e
      · rename_i ρ1 e1
        exact ⟨_, _, rfl, F, ρ, _, ρ1, S, r1, e1, fun σ1 m1 S1 => ⟨F, ρ1, _, ρ', S1, r2, e, fun σ2 m2 => k σ2 (m1.trans m2)⟩⟩
      · cases e
theorem gx_tup {k n : Nat} {us : List Tg} {ws : List Nat} (hK : B.c.K = X.K) (hc : X.calm = true) (h : PGsD X B es ws us) (hl : us.length = n)
    (hn : (assignEach es X.env).length = n := by rfl) (hst : (assignEach es X.env).findIdx? (·.1) = none := by rfl) : PG X (.Tuple es k pos) (tGX B ws us) :=
  pg_wk (pg_or (pg_tup hc h hn hst) (pg_lst hc h hn hst)) fun v σ H Q ⟨F, ρ, d, ρ', S, r, e, kk⟩ => by
    have go : ∀ ds vs, Reps B.c F ds vs → goT us ds ρ = some ρ' → vs.length = n ∧ tGs B ws us vs σ H Q := fun ds vs r e => ⟨by rw [r.length, ← goT_len e, hl], F, ρ, ds, ρ', S, r, e, kk⟩
    cases d with
    | tuple ds =>
      obtain ⟨a, vs, rfl, q, q2, _⟩ := r.tuple S.ex
      obtain ⟨g1, g2⟩ := go ds vs q2 e
      exact .inl ⟨a, vs, rfl, by rw [← hK]; exact q, g1, g2⟩
    | list ds =>
      obtain ⟨a, vs, rfl, q, q2⟩ := r.list S.ex
      obtain ⟨g1, g2⟩ := go ds vs q2 e
      exact .inr ⟨a, vs, rfl, .inl q, g1, g2⟩
    | _ => cases e
theorem g_tup {k n : Nat} {us : List Tg} {ws : List Nat} (hK : B.c.K = X.K) (hc : X.calm = true) (h : PGsD X B es ws us) (hl : us.length = n)
    (hn : (assignEach es X.env).length = n := by rfl) (hst : (assignEach es X.env).findIdx? (·.1) = none := by rfl) : PGD X B (.Tuple es k pos) ws (tgT us) :=
  pg_wk (gx_tup hK hc h hl hn hst) fun v σ H Q ⟨F, ρ, d, ρ', S, r, e, kk⟩ => ⟨F, ρ, d, ρ', S, .rep r, e, kk⟩
/-- a, b, .. = e -/
def sUnp (us : List Tg) (a : Ev) : Sv := fun ρ => (a ρ).bdS fun r ρ1 => match look ρ1 r with
  | some d => match tgT us d ρ1 with
    | some ρ2 => .nx ρ2
    | none => .bad
  | none => .bad
theorem s_unp {us : List Tg} {ws : List Nat} {tg : Expr} (ha : PED X B W x a) (hg : PG X tg (tGX B ws us)) (hs : swapsWithSole [tg] x pos.line X.env = pure false := by rfl) (hw : swappedStores [tg] x X.env = pure none := by rfl)
    (h1 : (assignEach [tg] X.env).map (·.2) = [assign tg X.env] := by rfl) : PSD X B W (.Assign [tg] x pos) (sUnp us a) :=
  ps_wk (ps_asg ha hg hs hw h1) fun D σ H ⟨F, ρ, S, h⟩ => bdS_ok S h fun r ρ1 F1 H1 x e1 S1 R1 h1 => by
    cases l : look ρ1 r with
    | none => simp only [l] at h1; exact h1.elim
    | some d =>
      simp only [l] at h1
      cases e : tgT us d ρ1 with
      | none => simp only [e] at h1; exact h1.elim
      | some ρ2 =>
        simp only [e] at h1
        exact ⟨F1, ρ1, d, ρ2, S1, R1.rd S1 l, e, fun σ' _ S' => h1 F1 σ' H1 (Ex.refl _) S'⟩

/-! ### x op= e -/
def sAug (i : Nat) (f : D → D → Option Res) (a : Ev) : Sv := fun ρ => match ρ[i]? with
  | some (.v d0) => (a ρ).bdS fun r ρ1 => match look ρ1 r with
    | some d1 => match f d0 d1 with
      | some (.v d2) => .nx (ρ1.set i (.v d2))
      | _ => .bad
    | none => .bad
  | _ => .bad
theorem s_aug {i : Nat} {nm : Str} {op : Operator} {r : R2} {f : D → D → Option Res} {pos' : Pos} (ho : OpR X (inplaceOp op) r) (hf : OpD B.c r f) (hN : X.N.Nodup) (hi : X.N[i]? = some nm) (hx : Loc X.env.scope nm) (ha : PED X B W x a)
    (hfn : X.fn nm = true ∨ X.env.scope.names.lookup nm = some .local := by first | exact .inl rfl | exact .inr rfl | assumption) : PSD X B W (.AugAssign (.Name nm pos') op x pos) (sAug i f a) :=
  ps_wk (ps_aug hN hi hx ha ho hfn) fun D σ H ⟨F, ρ, S, h⟩ => by
    unfold sAug at h
    cases e : ρ[i]? with
    | none => simp only [e] at h; exact h.elim
    | some s =>
      have hl : i < σ.length := by rw [S.len]; exact get_lt e
      have q := S.sl i s _ e (List.getElem?_eq_getElem hl)
      cases s with
      | u => simp only [e] at h; exact h.elim
      | o _ => simp only [e] at h; exact h.elim
      | b _ => simp only [e] at h; exact h.elim
      | e _ => simp only [e] at h; exact h.elim
      | v d0 =>
        simp only [e] at h
        obtain ⟨v, e1, r0⟩ := q
        refine ⟨v, by rw [List.getElem?_eq_getElem hl, e1], bdS_ok S h fun r1 ρ1 F1 H1 y e1 S1 R1 h1 => ?_⟩
        cases l : look ρ1 r1 with
        | none => simp only [l] at h1; exact h1.elim
        | some d1 =>
          simp only [l] at h1
          cases e3 : f d0 d1 with
          | none => simp only [e3] at h1; exact h1.elim
          | some res =>
            simp only [e3] at h1
            cases res with
            | s _ => exact h1.elim
            | f _ => exact h1.elim
            | v d2 =>
              obtain ⟨_, kk⟩ := hf F1 H1 d0 d1 v y (.v d2) _ S1.ex (.rep (r0.ex e1)) (R1.rd S1 l) e3
              refine kk fun F' H' z g q => ?_
              exact h1 F' _ H' g.f ((S1.grow g).setV i q)
end
end Pd
end
section
set_option Elab.async false
set_option linter.all false
set_option maxRecDepth 100000
set_option maxHeartbeats 4000000
namespace Pd
open PySem L2

/-! ### while -/
def whileF (t : EvT) (b : Sv) : Nat → Env → SOut
  | 0, _ => .bad
  | n + 1, ρ => (t ρ).bdS fun k ρ1 => match k with
    | false => .nx ρ1
    | true => match b ρ1 with
      | .nx ρ2 => whileF t b n ρ2
      | .ct ρ2 => whileF t b n ρ2
      | .bk ρ2 => .nx ρ2
      | o => o
theorem whileF_up {t : EvT} {b : Sv} : ∀ {n m : Nat} {ρ : Env}, n ≤ m → whileF t b n ρ ≠ .bad → whileF t b m ρ = whileF t b n ρ
  | 0, _, _, _, h => absurd rfl h
  | n + 1, 0, _, h, _ => absurd h (by omega)
  | n + 1, m + 1, ρ, hle, h => by
    rw [whileF] at h ⊢
    rw [whileF]
    cases e : t ρ with
    | ok k ρ1 =>
      rw [e] at h
      simp only [OutT.bdS] at h ⊢
      cases k with
      | false => rfl
      | true =>
        simp only at h ⊢
        cases e2 : b ρ1 with
        | nx ρ2 => rw [e2] at h; exact whileF_up (by omega) h
        | ct ρ2 => rw [e2] at h; exact whileF_up (by omega) h
        | bk ρ2 => rfl
        | rt _ _ => rfl
        | ex _ _ => rfl
        | bad => rfl
    | ex _ _ => rfl
    | bad => rfl
open Classical in
/-- as long as it takes -/
noncomputable def sWhile (t : EvT) (b : Sv) : Sv := fun ρ => if h : ∃ n, whileF t b n ρ ≠ .bad then whileF t b h.choose ρ else .bad
theorem sWhile_of {t : EvT} {b : Sv} {n : Nat} {ρ : Env} {o : SOut} (h : whileF t b n ρ = o) (hb : o ≠ .bad) : sWhile t b ρ = o := by
  have he : ∃ n, whileF t b n ρ ≠ .bad := ⟨n, by rw [h]; exact hb⟩
  unfold sWhile
  rw [dif_pos he]
  have h1 := he.choose_spec
  rcases Nat.le_total n he.choose with k | k
  · rw [whileF_up k (by rw [h]; exact hb), h]
  · rw [← h, whileF_up k h1]
/-- one turn -/
theorem sWhile_step {t : EvT} {b : Sv} {ρ : Env} : sWhile t b ρ = (t ρ).bdS fun k ρ1 => match k with
    | false => .nx ρ1
    | true => match b ρ1 with
      | .nx ρ2 => sWhile t b ρ2
      | .ct ρ2 => sWhile t b ρ2
      | .bk ρ2 => .nx ρ2
      | o => o := by
  by_cases he : ∃ n, whileF t b n ρ ≠ .bad
  · obtain ⟨n, hn⟩ := he
    have e0 := sWhile_of (o := whileF t b n ρ) rfl hn
    rw [e0]
    cases n with
    | zero => exact absurd rfl hn
    | succ n =>
      rw [whileF] at hn ⊢
      cases e : t ρ with
      | ok k ρ1 =>
        rw [e] at hn
        simp only [OutT.bdS] at hn ⊢
        cases k with
        | false => rfl
        | true =>
          simp only at hn ⊢
          cases e2 : b ρ1 with
          | nx ρ2 => rw [e2] at hn; exact (sWhile_of rfl hn).symm
          | ct ρ2 => rw [e2] at hn; exact (sWhile_of rfl hn).symm
          | bk ρ2 => rfl
          | rt _ _ => rfl
          | ex _ _ => rfl
          | bad => rfl
      | ex _ _ => rfl
      | bad => rfl
  · have e0 : sWhile t b ρ = .bad := by unfold sWhile; rw [dif_neg he]
    rw [e0]
    have all : ∀ n, whileF t b n ρ = .bad := fun n => by
      by_cases h : whileF t b n ρ = .bad
      · exact h
      · exact absurd ⟨n, h⟩ he
    have h1 := all 1
    rw [whileF] at h1
    cases e : t ρ with
    | ok k ρ1 =>
      rw [e] at h1
      simp only [OutT.bdS] at h1 ⊢
      cases k with
      | false => exact h1.symm
      | true =>
        simp only at h1 ⊢
        have sub : ∀ ρ2, (b ρ1 = .nx ρ2 ∨ b ρ1 = .ct ρ2) → sWhile t b ρ2 = .bad := fun ρ2 h2 => by
          unfold sWhile
          refine dif_neg fun ⟨n, hn⟩ => hn ?_
          have h3 := all (n + 1)
          rw [whileF, e] at h3
          simp only [OutT.bdS] at h3
          rcases h2 with h2 | h2 <;> rw [h2] at h3 <;> exact h3
        cases e2 : b ρ1 with
        | nx ρ2 => exact (sub ρ2 (.inl e2)).symm
        | ct ρ2 => exact (sub ρ2 (.inr e2)).symm
        | bk ρ2 => rw [e2] at h1; exact h1.symm
        | rt _ _ => rw [e2] at h1; exact h1.symm
        | ex _ _ => rw [e2] at h1; exact h1.symm
        | bad => rfl
    | ex _ _ => rw [e] at h1; exact h1.symm
    | bad => rfl
section
variable {X : Cx} {B : Bs} {W : WX} {x y z : Expr} {st : Stmt} {rest : List Stmt} {a b d : Ev} {s t : Sv} {pos : Pos} {D' : Ends} {σ : L2.St} {H F : Hp} {ρ : Env}
theorem whileF_ok {k : EvT} (h : tS B W (sWhile k s) D' σ H) : tWhile (tT B W k) (tS B W s) D' σ H := by
  obtain ⟨F, ρ, S, h⟩ := h
  have he : ∃ n, whileF k s n ρ ≠ .bad := by
    by_cases he : ∃ n, whileF k s n ρ ≠ .bad
    · exact he
    · unfold sWhile at h
      rw [dif_neg he] at h
      exact h.elim
  obtain ⟨n, hn⟩ := he
  rw [sWhile_of (n := n) rfl hn] at h
  refine ⟨fun m σ H => ∃ F ρ, St B F σ H ρ ∧ SOk B W F D' (whileF k s m ρ), ⟨n, F, ρ, S, h⟩, ?_⟩
  rintro m σ H ⟨F, ρ, S, h⟩
  cases m with
  | zero => exact h.elim
  | succ m =>
    refine tbdS_ok S h fun r ρ1 F1 H1 e1 S1 h1 => ?_
    cases r with
    | false => rw [if_neg Bool.false_ne_true]; exact h1 F1 σ H1 (Ex.refl _) S1
    | true =>
      rw [if_pos rfl]
      refine ⟨fun σ' H' => ∃ F ρ, St B F σ' H' ρ ∧ SOk B W F D' (whileF k s m ρ), fun σ' H' h => ⟨m, Nat.lt_succ_self m, h⟩, F1, ρ1, S1, ?_⟩
      simp only at h1
      cases e : s ρ1 with
      | nx ρ2 => rw [e] at h1; exact fun F' σ' H' e' S' => ⟨F', ρ2, S', SOk.mono e' h1⟩
      | ct ρ2 => rw [e] at h1; exact fun F' σ' H' e' S' => ⟨F', ρ2, S', SOk.mono e' h1⟩
      | bk ρ2 => rw [e] at h1; exact h1
      | rt _ _ => rw [e] at h1; exact h1
      | ex _ _ => rw [e] at h1; exact h1
      | bad => rw [e] at h1; exact h1
theorem s_while {c : Expr} {k : EvT} {l : List Stmt} (hp : PassesOwn (model X.prog X.w) X.A X.env X.xe) (hc : PTD X B W c k) (h1 : PSsD X B W l s) : PSD X B W (.While c l [] pos) (sWhile k s) :=
  ps_wk (ps_while hp hc h1) fun D σ H h => whileF_ok h
end

/-! ### what is walked -/
inductive OutI where
  | ok (ds : List D) (ρ : Env) | ex (c : String) (ρ : Env) | bad
abbrev EvI := Env → OutI
def Out.bdI : Out → (Res → Env → OutI) → OutI
  | .ok r ρ, k => k r ρ
  | .ex c ρ, _ => .ex c ρ
  | .bad, _ => .bad
def OutA.bdI : OutA → (List Res → Env → OutI) → OutI
  | .ok r ρ, k => k r ρ
  | .ex c ρ, _ => .ex c ρ
  | .bad, _ => .bad
def OutI.bdS : OutI → (List D → Env → SOut) → SOut
  | .ok r ρ, k => k r ρ
  | .ex c ρ, _ => .ex c ρ
  | .bad, _ => .bad
def OutI.bdE : OutI → (List D → Env → Out) → Out
  | .ok r ρ, k => k r ρ
  | .ex c ρ, _ => .ex c ρ
  | .bad, _ => .bad
/-- J walks ds, whatever grows -/
def ItOk (c : Ct) (F : Hp) (J : It) (ds : List D) : Prop := ∀ F' H', Ex F F' → Ex F' H' → ∀ k,
  (∀ d, ds[k]? = some d → J.go k H' ∧ ∀ x H'', J.yld k H' x H'' → ∃ F'', Grow F' H' F'' H'' ∧ Rep c F'' d x) ∧ (ds.length ≤ k → J.stop k H')
def OutIOk (B : Bs) (W : WX) (F : Hp) (σ : L2.St) (R : It → Hp → Prop) : OutI → Prop
  | .ok ds ρ' => ∀ F' H' J, Ex F F' → St B F' σ H' ρ' → ItOk B.c F' J ds → R J H'
  | .ex c ρ' => ∀ F' H', Ex F F' → St B F' σ H' ρ' → W (.ref (B.ec c)) none σ H'
  | .bad => False
def tI (B : Bs) (W : WX) (i : EvI) : TI := fun σ H R => ∃ F ρ, St B F σ H ρ ∧ OutIOk B W F σ R (i ρ)
abbrev PID (X : Cx) (B : Bs) (W : WX) (tg : Expr) (e : Expr) (i : EvI) : Prop := PI X tg e (tI B W i)
theorem pi_wk {X : Cx} {tg e : Expr} {t t' : TI} (h : PI X tg e t) (k : ∀ σ H Q, t' σ H Q → t σ H Q) : PI X tg e t' := ⟨fun pins s σ H Q I q => h.run pins s σ H Q I (k σ H Q q)⟩
theorem pi_or {X : Cx} {tg e : Expr} {t u : TI} (h : PI X tg e t) (h' : PI X tg e u) : PI X tg e (fun σ H R => t σ H R ∨ u σ H R) := ⟨fun pins s σ H R I q => by
  rcases q with q | q
  · exact h.run pins s σ H R I q
  · exact h'.run pins s σ H R I q⟩
section
variable {B : Bs} {W : WX} {F F1 H : Hp} {σ : L2.St} {ρ : Env} {R : It → Hp → Prop}
theorem OutIOk.mono {o : OutI} (e : Ex F F1) (h : OutIOk B W F σ R o) : OutIOk B W F1 σ R o := by
  cases o with
  | ok r ρ' => exact fun F' H' x e' => h F' H' x (e.trans e')
  | ex c ρ' => exact fun F' H' e' => h F' H' (e.trans e')
  | bad => exact h
theorem bdI_ok {a : Ev} {k : Res → Env → OutI} {Q : VK} (S : St B F σ H ρ) (h : OutIOk B W F σ R ((a ρ).bdI k))
    (step : ∀ r ρ1 F1 H1 x, Ex F F1 → St B F1 σ H1 ρ1 → ResOk B F1 σ H1 ρ1 r x → OutIOk B W F1 σ R (k r ρ1) → Q x H1) : tE B W a σ H Q := by
  refine ⟨F, ρ, S, ?_⟩
  cases e : a ρ with
  | ok r ρ1 => rw [e] at h; exact fun F1 H1 x e1 S1 R1 => step r ρ1 F1 H1 x e1 S1 R1 (OutIOk.mono e1 h)
  | ex c ρ1 => rw [e] at h; exact h
  | bad => rw [e] at h; exact h
theorem abdI_ok {a : EvA} {k : List Res → Env → OutI} {Q : List V → Hp → Prop} (S : St B F σ H ρ) (h : OutIOk B W F σ R ((a ρ).bdI k))
    (step : ∀ r ρ1 F1 H1 x, Ex F F1 → St B F1 σ H1 ρ1 → RessOk B F1 σ H1 ρ1 r x → OutIOk B W F1 σ R (k r ρ1) → Q x H1) : tA B W a σ H Q := by
  refine ⟨F, ρ, S, ?_⟩
  cases e : a ρ with
  | ok r ρ1 => rw [e] at h; exact fun F1 H1 x e1 S1 R1 => step r ρ1 F1 H1 x e1 S1 R1 (OutIOk.mono e1 h)
  | ex c ρ1 => rw [e] at h; exact h
  | bad => rw [e] at h; exact h
theorem ibdS_ok {a : EvI} {k : List D → Env → SOut} {E : Ends} (S : St B F σ H ρ) (h : SOk B W F E ((a ρ).bdS k))
    (step : ∀ ds ρ1 F1 H1 J, Ex F F1 → St B F1 σ H1 ρ1 → ItOk B.c F1 J ds → SOk B W F1 E (k ds ρ1) → R J H1) : tI B W a σ H R := by
  refine ⟨F, ρ, S, ?_⟩
  cases e : a ρ with
  | ok r ρ1 => rw [e] at h; exact fun F1 H1 x e1 S1 R1 => step r ρ1 F1 H1 x e1 S1 R1 (SOk.mono e1 h)
  | ex c ρ1 => rw [e] at h; exact fun F' H' e' S' => h F' σ H' e' S'
  | bad => rw [e] at h; exact h
theorem ibdE_ok {a : EvI} {k : List D → Env → Out} {Q : VK} (S : St B F σ H ρ) (h : OutOk B W F σ Q ((a ρ).bdE k))
    (step : ∀ ds ρ1 F1 H1 J, Ex F F1 → St B F1 σ H1 ρ1 → ItOk B.c F1 J ds → OutOk B W F1 σ Q (k ds ρ1) → R J H1) : tI B W a σ H R := by
  refine ⟨F, ρ, S, ?_⟩
  cases e : a ρ with
  | ok r ρ1 => rw [e] at h; exact fun F1 H1 x e1 S1 R1 => step r ρ1 F1 H1 x e1 S1 R1 (OutOk.mono e1 h)
  | ex c ρ1 => rw [e] at h; exact h
  | bad => rw [e] at h; exact h
end
/-- the signs of a text -/
def signs (s : Str) : List D := s.cps.toList.map fun c => PyData.str ⟨#[c]⟩
def iSeq (a : Ev) : EvI := fun ρ => (a ρ).bdI fun r ρ1 => match frzR ρ1 r with
  | some (.list ds, ρ2) => .ok ds ρ2
  | some (.tuple ds, ρ2) => .ok ds ρ2
  | some (.str s, ρ2) => .ok (signs s) ρ2
  | some (d, ρ2) => match scrOf d with
    | some ds => .ok ds ρ2
    | none => .bad
  | none => .bad
def rngD (lo : Int) (n : Nat) : List D := (List.range n).map fun (k : Nat) => PyData.int (lo + (k : Int))
noncomputable def rngOk (j : Int) : Bool := yes (-(2 ^ 62) ≤ j ∧ j < 2 ^ 62)
section
variable {X : Cx} {B : Bs} {W : WX} {x y z : Expr} {st : Stmt} {rest : List Stmt} {a b d : Ev} {s t : Sv} {pos p : Pos} {D' : Ends} {σ : L2.St} {H F : Hp} {ρ : Env} {tg : Expr} {ta : EvA}
theorem itOk_list {c : Ct} {K : Frag} {F : Hp} {q : Addr} {ds : List D} {vs : List V} (r : Rd F q (.lst vs)) (rs : Reps c F ds vs) : ItOk c F (Itl K q) ds := by
  intro F' H' e1 e2 k
  have r' : Rd H' q (.lst vs) := e2.rd _ _ (e1.rd _ _ r)
  refine ⟨fun d hd => ?_, fun hk => ⟨vs, .inl r', by rw [rs.length]; exact hk⟩⟩
  obtain ⟨v, hv, rv⟩ := rs.getD hd
  refine ⟨⟨vs, v, .inl r', hv⟩, fun x H'' h => ?_⟩
  obtain ⟨rfl, h⟩ := h
  have := h vs (.inl r')
  rw [hv] at this
  cases this
  exact ⟨F', Grow.refl e2, rv.ex e1⟩
theorem itOk_sq {c : Ct} {F : Hp} {q : Addr} {ds : List D} {vs : List V} (r : SqL c.K F q vs) (rs : Reps c F ds vs) : ItOk c F (Itl c.K q) ds := by
  intro F' H' e1 e2 k
  have r' : SqL c.K H' q vs := exL (e1.trans e2) r
  refine ⟨fun d hd => ?_, fun hk => ⟨vs, r', by rw [rs.length]; exact hk⟩⟩
  obtain ⟨v, hv, rv⟩ := rs.getD hd
  refine ⟨⟨vs, v, r', hv⟩, fun x H'' h => ?_⟩
  obtain ⟨rfl, h⟩ := h
  have := h vs r'
  rw [hv] at this
  cases this
  exact ⟨F', Grow.refl e2, rv.ex e1⟩
theorem itOk_tup {c : Ct} {F : Hp} {q : Addr} {ds : List D} {vs : List V} (r : TupAt c F q vs) (rs : Reps c F ds vs) : ItOk c F (Itt c.K q) ds := by
  intro F' H' e1 e2 k
  have r' : SqT c.K H' q vs := (r.ex (e1.trans e2)).sq
  refine ⟨fun d hd => ?_, fun hk => ⟨vs, r', by rw [rs.length]; exact hk⟩⟩
  obtain ⟨v, hv, rv⟩ := rs.getD hd
  refine ⟨⟨vs, v, r', hv⟩, fun x H'' h => ?_⟩
  obtain ⟨rfl, h⟩ := h
  have := h vs r'
  rw [hv] at this
  cases this
  exact ⟨F', Grow.refl e2, rv.ex e1⟩
theorem itOk_str {c : Ct} {F : Hp} {u : Str} : ItOk c F (Its u) (signs u) := by
  intro F' H' e1 e2 k
  refine ⟨fun d hd => ?_, fun hk => show u.cps.size ≤ k by simpa [signs] using hk⟩
  simp only [signs, List.getElem?_map, Option.map_eq_some_iff] at hd
  obtain ⟨ch, h1, rfl⟩ := hd
  have hk : k < u.cps.size := by simpa using get_lt h1
  refine ⟨hk, fun x H'' h => ?_⟩
  obtain ⟨rfl, c', h2, rfl⟩ := h
  have : c' = ch := by
    rw [Array.getElem?_toList] at h1
    rw [h1] at h2
    exact (Option.some.inj h2).symm
  subst this
  exact ⟨F', Grow.refl e2, .str _⟩
theorem itOk_rng {c : Ct} {F : Hp} {lo : Int} {n : Nat} : ItOk c F (Itr lo n) (rngD lo n) := by
  intro F' H' e1 e2 k
  refine ⟨fun d hd => ?_, fun hk => show n ≤ k by simpa [rngD] using hk⟩
  simp only [rngD, List.getElem?_map, Option.map_eq_some_iff] at hd
  obtain ⟨j, h1, rfl⟩ := hd
  have hk := get_lt h1
  rw [List.length_range] at hk
  rw [List.getElem?_range hk] at h1
  cases h1
  refine ⟨hk, fun x H'' h => ?_⟩
  obtain ⟨rfl, rfl⟩ := h
  exact ⟨F', Grow.refl e2, .int _⟩
theorem itOk_rngC {c : Ct} {F : Hp} {lo st : Int} {n : Nat} : ItOk c F (Itc lo st n) ((List.range n).map fun (k : Nat) => PyData.int (lo + (k : Int) * st)) := by
  intro F' H' e1 e2 k
  refine ⟨fun d hd => ?_, fun hk => show n ≤ k by simpa using hk⟩
  simp only [List.getElem?_map, Option.map_eq_some_iff] at hd
  obtain ⟨j, h1, rfl⟩ := hd
  have hk := get_lt h1
  rw [List.length_range] at hk
  rw [List.getElem?_range hk] at h1
  cases h1
  refine ⟨hk, fun x H'' h => ?_⟩
  obtain ⟨rfl, rfl⟩ := h
  exact ⟨F', Grow.refl e2, .int _⟩
theorem Rep.listI {c : Ct} {F : Hp} {ds : List D} {x : V} (h : Rep c F (.list ds) x) : ∃ q vs, x = .ref q ∧ Rd F q (.lst vs) ∧ Reps c F ds vs := by
  cases h with | lst h r => exact ⟨_, _, rfl, .inl h, r⟩
theorem Rep.tupI {c : Ct} {F : Hp} {ds : List D} {x : V} (h : Rep c F (.tuple ds) x) : ∃ q vs, x = .ref q ∧ TupAt c F q vs ∧ Reps c F ds vs := by
  cases h with | tup h r => exact ⟨_, _, rfl, h, r⟩
theorem i_seq (hK : B.c.K = X.K) (ha : PED X B W x a) : PID X B W tg x (iSeq a) :=
  pi_wk (pi_or (pi_list ha) (pi_or (pi_tup ha) (pi_str ha))) fun σ H R ⟨F, ρ, S, h⟩ => by
    unfold iSeq at h
    cases e : a ρ with
    | ex c ρ1 => rw [e] at h; exact .inl ⟨F, ρ, S, by rw [e]; exact h⟩
    | bad => rw [e] at h; exact h.elim
    | ok r ρ1 =>
      cases e2 : frzR ρ1 r with
      | none => rw [e] at h; simp only [Out.bdI, e2] at h; exact h.elim
      | some q =>
        obtain ⟨d, ρ2⟩ := q
        have go : ∀ {Q : VK}, (∀ F2 H2 v, Ex F F2 → St B F2 σ H2 ρ2 → Rep B.c F2 d v → Q v H2) → tE B W a σ H Q := fun {Q} hq => ⟨F, ρ, S, by
          rw [e]
          intro F1 H1 v e1 S1 R1
          obtain ⟨F2, x2, S2, q2⟩ := frzR_ok S1 R1 e2
          exact hq F2 H1 v (e1.trans x2) S2 q2⟩
        rw [e] at h
        simp only [Out.bdI, e2] at h
        cases d with
        | list ds =>
          refine .inl (go fun F2 H2 v e3 S2 r2 => ?_)
          obtain ⟨q, vs, rfl, r, rs⟩ := r2.listI
          exact ⟨q, rfl, ⟨vs, .inl (S2.ex.rd _ _ r)⟩, h F2 H2 _ e3 S2 (itOk_list r rs)⟩
        | tuple ds =>
          refine .inr (.inl (go fun F2 H2 v e3 S2 r2 => ?_))
          obtain ⟨q, vs, rfl, r, rs⟩ := r2.tupI
          rw [← hK]
          exact ⟨q, rfl, ⟨vs, (r.ex S2.ex).sq⟩, h F2 H2 _ e3 S2 (itOk_tup r rs)⟩
        | str u =>
          refine .inr (.inr (go fun F2 H2 v e3 S2 r2 => ?_))
          cases r2
          exact ⟨u, rfl, h F2 H2 _ e3 S2 itOk_str⟩
        | dict ps =>
          simp only at h
          cases es : scrOf (.dict ps) with
          | none => rw [es] at h; exact h.elim
          | some ds =>
            rw [es] at h
            refine .inl (go fun F2 H2 v e3 S2 r2 => ?_)
            rw [scrOf_eq es] at r2
            cases r2 with
            | scr r rs =>
              rw [← hK]
              exact ⟨_, rfl, ⟨_, exL S2.ex r⟩, h F2 H2 _ e3 S2 (itOk_sq r rs)⟩
        | none => simp only [scrOf] at h; exact h.elim
        | bool _ => simp only [scrOf] at h; exact h.elim
        | int _ => simp only [scrOf] at h; exact h.elim
theorem rng_ok {j : Int} (h : rngOk j = true) : -(2 ^ 62) ≤ j ∧ j < 2 ^ 62 := by
  exact yes_iff.mp h
theorem RdXs.three {c : Ct} {d e f : D} {xs : List V} (h : RdXs c F H [d, e, f] xs) : ∃ x y z, xs = [x, y, z] ∧ RdX c F H d x ∧ RdX c F H e y ∧ RdX c F H f z := by
  cases h with | cons h t => cases t with | cons h' t => cases t with | cons h2 t => cases t; exact ⟨_, _, _, rfl, h, h', h2⟩
noncomputable def rng1 : List D → Option (List D)
  | [.int j] => if rngOk j then some (rngD 0 j.toNat) else none
  | _ => none
noncomputable def rng2 : List D → Option (List D)
  | [.int i, .int j] => if rngOk i && rngOk j then some (rngD i (j - i).toNat) else none
  | _ => none
/-- a range that goes down by one, or up by steps -/
noncomputable def rng3 : List D → Option (List D)
  | [.int i, .int j, .int c] => if c = -1 && (rngOk i && rngOk j) then some ((List.range (i - j).toNat).map fun (k : Nat) => PyData.int (i + (k : Int) * (-1)))
    else if (0 < c && c < 1073741824) && (rngOk i && rngOk j) then some ((List.range ((j - i + c - 1) / c).toNat).map fun (k : Nat) => PyData.int (i + (k : Int) * c)) else none
  | _ => none
def iRange (f : List D → Option (List D)) (t : EvA) : EvI := fun ρ => (t ρ).bdI fun rs ρ1 => match looks ρ1 rs with
  | some ds => match f ds with
    | some es => .ok es ρ1
    | none => .bad
  | none => .bad
theorem range_ok {f : List D → Option (List D)} {Q : List V → Hp → Prop} {R : It → Hp → Prop} (S : St B F σ H ρ) (h : OutIOk B W F σ R (iRange f ta ρ)) (k : ∀ ds xs es F1 H1 , RdXs B.c F1 H1 ds xs → f ds = some es → (∀ J, ItOk B.c F1 J es → R J H1) → Q xs H1) : tA B W ta σ H Q :=
  abdI_ok S h fun rs ρ1 F1 H1 xs e1 S1 R1 h1 => by
    cases e : looks ρ1 rs with
    | none => simp only [e] at h1; exact h1.elim
    | some ds =>
      simp only [e] at h1
      cases e2 : f ds with
      | none => simp only [e2] at h1; exact h1.elim
      | some es =>
        simp only [e2] at h1
        exact k ds xs es F1 H1 (looks_ok S1 R1 e) e2 fun J hJ => h1 F1 H1 J (Ex.refl _) S1 hJ
theorem i_range1 (hg : Gl X "range") (hm : X.mg "range" = none) (ha : PAD X B W [x] ta) (hs : starEach [x] X.env = [(false, eval x X.env)] := by rfl) : PID X B W tg (.Call (.Name "range" p) [x] [] pos) (iRange rng1 ta) :=
  pi_wk (pi_range1 hg hm ha hs) fun σ H R ⟨F, ρ, S, h⟩ => range_ok S h fun ds xs es F1 H1 r1 e2 k => by
    match ds, r1, e2 with
    | [.int j], r1, e2 =>
      simp only [rng1] at e2
      split at e2
      · rename_i hj
        cases e2
        obtain ⟨x, rfl, g⟩ := r1.one
        exact ⟨j, by rw [g.int], (rng_ok hj).1, (rng_ok hj).2, k _ itOk_rng⟩
      · cases e2
theorem i_range2 (hg : Gl X "range") (hm : X.mg "range" = none) (ha : PAD X B W [x, y] ta) (hs : starEach [x, y] X.env = [(false, eval x X.env), (false, eval y X.env)] := by rfl) (hs2 : starEach [y] X.env = [(false, eval y X.env)] := by rfl) : PID X B W tg (.Call (.Name "range" p) [x, y] [] pos) (iRange rng2 ta) :=
  pi_wk (pi_range2 hg hm ha hs hs2) fun σ H R ⟨F, ρ, S, h⟩ => range_ok S h fun ds xs es F1 H1 r1 e2 k => by
    match ds, r1, e2 with
    | [.int i, .int j], r1, e2 =>
      simp only [rng2] at e2
      split at e2
      · rename_i hj
        rw [Bool.and_eq_true] at hj
        cases e2
        obtain ⟨x, y, rfl, g, g'⟩ := r1.two
        exact ⟨i, j, by rw [g.int, g'.int], ⟨(rng_ok hj.1).1, (rng_ok hj.1).2, (rng_ok hj.2).1, (rng_ok hj.2).2⟩, k _ itOk_rng⟩
      · cases e2
theorem i_range3 (hg : Gl X "range") (hm : X.mg "range" = none) (ha : PAD X B W [x, y, z] ta) (hs : starEach [x, y, z] X.env = (false, eval x X.env) :: starEach [y, z] X.env := by rfl) (hpl : (backTo pos (starEach [y, z] X.env)).any (·.1) = false := by rfl) : PID X B W tg (.Call (.Name "range" p) [x, y, z] [] pos) (iRange rng3 ta) :=
  pi_wk (pi_range3 hg hm ha hs hpl) fun σ H R ⟨F, ρ, S, h⟩ => range_ok S h fun ds xs es F1 H1 r1 e2 k => by
    match ds, r1, e2 with
    | [.int i, .int j, .int c], r1, e2 =>
      simp only [rng3] at e2
      split at e2
      · rename_i hj
        rw [Bool.and_eq_true, Bool.and_eq_true, decide_eq_true_eq] at hj
        cases e2
        obtain ⟨hc, h1, h2⟩ := hj
        obtain ⟨x, y, z, rfl, g, g', g2⟩ := r1.three
        subst hc
        exact ⟨i, j, -1, (i - j).toNat, by rw [g.int, g'.int, g2.int], RgC.neg (rng_ok h1).1 (rng_ok h1).2 (rng_ok h2).1 (rng_ok h2).2, k _ itOk_rngC⟩
      · split at e2
        · rename_i _ hj
          rw [Bool.and_eq_true, Bool.and_eq_true, Bool.and_eq_true, decide_eq_true_eq, decide_eq_true_eq] at hj
          cases e2
          obtain ⟨⟨hc, hc'⟩, h1, h2⟩ := hj
          obtain ⟨x, y, z, rfl, g, g', g2⟩ := r1.three
          exact ⟨i, j, c, ((j - i + c - 1) / c).toNat, by rw [g.int, g'.int, g2.int], RgC.pos (rng_ok h1).1 (rng_ok h1).2 (rng_ok h2).1 (rng_ok h2).2 hc hc', k _ itOk_rngC⟩
        · cases e2
/-- enumerate(list), zip(list, list) -/
def enumD (ds : List D) : List D := ds.zipIdx.map fun q => PyData.tuple [.int (q.2 : Nat), q.1]
def zipD (ds es : List D) : List D := (ds.zip es).map fun q => PyData.tuple [q.1, q.2]
def iEnumD (t : EvA) : EvI := fun ρ => (t ρ).bdI fun rs ρ1 => match frzs ρ1 rs with
  | some ([.list ds], ρ2) => .ok (enumD ds) ρ2
  | some ([.tuple ds], ρ2) => .ok (enumD ds) ρ2
  | _ => .bad
def iZipD (t : EvA) : EvI := fun ρ => (t ρ).bdI fun rs ρ1 => match frzs ρ1 rs with
  | some ([.list ds, .list es], ρ2) => .ok (zipD ds es) ρ2
  | some ([.tuple ds, .tuple es], ρ2) => .ok (zipD ds es) ρ2
  | some ([.list ds, .tuple es], ρ2) => .ok (zipD ds es) ρ2
  | _ => .bad
theorem itOk_enum {c : Ct} {K : Frag} {F : Hp} {q : Addr} {ds : List D} {vs : List V} (r : Rd F q (.lst vs)) (rs : Reps c F ds vs) : ItOk c F (Ite K q) (enumD ds) := by
  intro F' H' e1 e2 k
  have r' : Rd H' q (.lst vs) := e2.rd _ _ (e1.rd _ _ r)
  refine ⟨fun d hd => ?_, fun hk => ⟨vs, .inl r', by rw [rs.length]; simpa [enumD] using hk⟩⟩
  simp only [enumD, List.getElem?_map, Option.map_eq_some_iff, List.getElem?_zipIdx] at hd
  obtain ⟨w, ⟨d', hd', rfl⟩, rfl⟩ := hd
  obtain ⟨v, hv, rv⟩ := rs.getD hd'
  refine ⟨⟨vs, v, .inl r', hv⟩, fun x H'' h => ?_⟩
  obtain ⟨T, x', rfl, hT, rfl, h⟩ := h
  have := h vs (.inl r')
  rw [hv] at this
  cases this
  refine ⟨_, Grow.obj e2 hT, .tup (.inl upd_same) ?_⟩
  have f := Ex.new (o := .tup [.int (k : Nat), v]) (e2.free hT)
  rw [Nat.zero_add]
  exact .cons (.int _) (.cons ((rv.ex e1).ex f) .nil)
theorem itOk_enumT {c : Ct} {F : Hp} {q : Addr} {ds : List D} {vs : List V} (r : TupAt c F q vs) (rs : Reps c F ds vs) : ItOk c F (IteT c.K q) (enumD ds) := by
  intro F' H' e1 e2 k
  have r' : SqT c.K H' q vs := (r.ex (e1.trans e2)).sq
  refine ⟨fun d hd => ?_, fun hk => ⟨vs, r', by rw [rs.length]; simpa [enumD] using hk⟩⟩
  simp only [enumD, List.getElem?_map, Option.map_eq_some_iff, List.getElem?_zipIdx] at hd
  obtain ⟨w, ⟨d', hd', rfl⟩, rfl⟩ := hd
  obtain ⟨v, hv, rv⟩ := rs.getD hd'
  refine ⟨⟨vs, v, r', hv⟩, fun x H'' h => ?_⟩
  obtain ⟨T, x', rfl, hT, rfl, h⟩ := h
  have := h vs r'
  rw [hv] at this
  cases this
  refine ⟨_, Grow.obj e2 hT, .tup (.inl upd_same) ?_⟩
  have f := Ex.new (o := .tup [.int (k : Nat), v]) (e2.free hT)
  rw [Nat.zero_add]
  exact .cons (.int _) (.cons ((rv.ex e1).ex f) .nil)
theorem itOk_zip {c : Ct} {K : Frag} {F : Hp} {q q' : Addr} {ds es : List D} {vs ws : List V} (r : Rd F q (.lst vs)) (rs : Reps c F ds vs) (s : Rd F q' (.lst ws)) (ss : Reps c F es ws) : ItOk c F (Itz K q q') (zipD ds es) := by
  intro F' H' e1 e2 k
  have r' : Rd H' q (.lst vs) := e2.rd _ _ (e1.rd _ _ r)
  have s' : Rd H' q' (.lst ws) := e2.rd _ _ (e1.rd _ _ s)
  refine ⟨fun d hd => ?_, fun hk => ⟨vs, ws, .inl r', .inl s', by rw [rs.length, ss.length]; simp [zipD] at hk; omega⟩⟩
  simp only [zipD, List.getElem?_map, Option.map_eq_some_iff] at hd
  obtain ⟨⟨d1, d2⟩, hz, rfl⟩ := hd
  rw [List.getElem?_zip_eq_some] at hz
  obtain ⟨v, hv, rv⟩ := rs.getD hz.1
  obtain ⟨w, hw, rw'⟩ := ss.getD hz.2
  refine ⟨⟨vs, ws, v, w, .inl r', .inl s', hv, hw⟩, fun x H'' h => ?_⟩
  obtain ⟨T, x', y', rfl, hT, rfl, h, h'⟩ := h
  have e3 := h vs (.inl r')
  rw [hv] at e3
  cases e3
  have e3 := h' ws (.inl s')
  rw [hw] at e3
  cases e3
  have f := Ex.new (o := .tup [v, w]) (e2.free hT)
  exact ⟨_, Grow.obj e2 hT, .tup (.inl upd_same) (.cons ((rv.ex e1).ex f) (.cons ((rw'.ex e1).ex f) .nil))⟩
theorem itOk_zipT {c : Ct} {F : Hp} {q q' : Addr} {ds es : List D} {vs ws : List V} (r : TupAt c F q vs) (rs : Reps c F ds vs) (s : TupAt c F q' ws) (ss : Reps c F es ws) : ItOk c F (RZ.ItzT c.K q q') (zipD ds es) := by
  intro F' H' e1 e2 k
  have r' : SqT c.K H' q vs := (r.ex (e1.trans e2)).sq
  have s' : SqT c.K H' q' ws := (s.ex (e1.trans e2)).sq
  refine ⟨fun d hd => ?_, fun hk => ⟨vs, ws, r', s', by rw [rs.length, ss.length]; simp [zipD] at hk; omega⟩⟩
  simp only [zipD, List.getElem?_map, Option.map_eq_some_iff] at hd
  obtain ⟨⟨d1, d2⟩, hz, rfl⟩ := hd
  rw [List.getElem?_zip_eq_some] at hz
  obtain ⟨v, hv, rv⟩ := rs.getD hz.1
  obtain ⟨w, hw, rw'⟩ := ss.getD hz.2
  refine ⟨⟨vs, ws, v, w, r', s', hv, hw⟩, fun x H'' h => ?_⟩
  obtain ⟨T, x', y', rfl, hT, rfl, h, h'⟩ := h
  have e3 := h vs r'
  rw [hv] at e3
  cases e3
  have e3 := h' ws s'
  rw [hw] at e3
  cases e3
  have f := Ex.new (o := .tup [v, w]) (e2.free hT)
  exact ⟨_, Grow.obj e2 hT, .tup (.inl upd_same) (.cons ((rv.ex e1).ex f) (.cons ((rw'.ex e1).ex f) .nil))⟩
theorem itOk_zipM {c : Ct} {F : Hp} {q q' : Addr} {ds es : List D} {vs ws : List V} (r : Rd F q (.lst vs)) (rs : Reps c F ds vs) (s : TupAt c F q' ws) (ss : Reps c F es ws) : ItOk c F (ItzM c.K q q') (zipD ds es) := by
  intro F' H' e1 e2 k
  have r' : Rd H' q (.lst vs) := e2.rd _ _ (e1.rd _ _ r)
  have s' : SqT c.K H' q' ws := (s.ex (e1.trans e2)).sq
  refine ⟨fun d hd => ?_, fun hk => ⟨vs, ws, .inl r', s', by rw [rs.length, ss.length]; simp [zipD] at hk; omega⟩⟩
  simp only [zipD, List.getElem?_map, Option.map_eq_some_iff] at hd
  obtain ⟨⟨d1, d2⟩, hz, rfl⟩ := hd
  rw [List.getElem?_zip_eq_some] at hz
  obtain ⟨v, hv, rv⟩ := rs.getD hz.1
  obtain ⟨w, hw, rw'⟩ := ss.getD hz.2
  refine ⟨⟨vs, ws, v, w, .inl r', s', hv, hw⟩, fun x H'' h => ?_⟩
  obtain ⟨T, x', y', rfl, hT, rfl, h, h'⟩ := h
  have e3 := h vs (.inl r')
  rw [hv] at e3
  cases e3
  have e3 := h' ws s'
  rw [hw] at e3
  cases e3
  have f := Ex.new (o := .tup [v, w]) (e2.free hT)
  exact ⟨_, Grow.obj e2 hT, .tup (.inl upd_same) (.cons ((rv.ex e1).ex f) (.cons ((rw'.ex e1).ex f) .nil))⟩
theorem i_enum (hK : B.c.K = X.K) {elts : List Expr} {kk : Nat} {tpos : Pos} (hg : Gl X "enumerate") (hm : X.mg "enumerate" = none) (ha : PAD X B W [x] ta) (hs : starEach [x] X.env = [(false, eval x X.env)] := by rfl) : PID X B W (.Tuple elts kk tpos) (.Call (.Name "enumerate" p) [x] [] pos) (iEnumD ta) :=
  pi_wk (pi_enumB hg hm ha hs) fun σ H R ⟨F, ρ, S, h⟩ => abdI_ok S h fun rs ρ1 F1 H1 xs e1 S1 R1 h1 => by
    rw [← hK]
    split at h1
    · rename_i ds ρ2 e
      obtain ⟨F2, x2, S2, q2⟩ := frzs_ok S1 R1 e
      cases q2 with
      | cons q2 t =>
        cases t
        obtain ⟨a, vs, rfl, r, q⟩ := q2.listI
        exact ⟨a, vs, rfl, .inl ⟨.inl (S2.ex.rd _ _ r), h1 F2 H1 _ x2 S2 (itOk_enum r q)⟩⟩
    · rename_i ds ρ2 e
      obtain ⟨F2, x2, S2, q2⟩ := frzs_ok S1 R1 e
      cases q2 with
      | cons q2 t =>
        cases t
        obtain ⟨a, vs, rfl, r, q⟩ := q2.tupI
        exact ⟨a, vs, rfl, .inr ⟨(r.ex S2.ex).sq, h1 F2 H1 _ x2 S2 (itOk_enumT r q)⟩⟩
    · exact h1.elim
theorem i_zip (hK : B.c.K = X.K) {elts : List Expr} {kk : Nat} {tpos : Pos} (hg : Gl X "zip") (hm : X.mg "zip" = none) (ha : PAD X B W [x, y] ta)
    (hs : starEach [x, y] X.env = (false, eval x X.env) :: starEach [y] X.env := by rfl) (hpl : (backTo pos (starEach [y] X.env)).any (·.1) = false := by rfl) : PID X B W (.Tuple elts kk tpos) (.Call (.Name "zip" p) [x, y] [] pos) (iZipD ta) :=
  pi_wk (pi_zipB hg hm ha hs hpl) fun σ H R ⟨F, ρ, S, h⟩ => abdI_ok S h fun rs ρ1 F1 H1 xs e1 S1 R1 h1 => by
    rw [← hK]
    split at h1
    · rename_i ds es ρ2 e
      obtain ⟨F2, x2, S2, q2⟩ := frzs_ok S1 R1 e
      cases q2 with
      | cons q2 t =>
        cases t with
        | cons q3 t =>
          cases t
          obtain ⟨a, vs, rfl, r, q⟩ := q2.listI
          obtain ⟨b, ws, rfl, r3, q3⟩ := q3.listI
          exact ⟨a, b, vs, ws, rfl, .inl ⟨.inl (S2.ex.rd _ _ r), .inl (S2.ex.rd _ _ r3), h1 F2 H1 _ x2 S2 (itOk_zip r q r3 q3)⟩⟩
    · rename_i ds es ρ2 e
      obtain ⟨F2, x2, S2, q2⟩ := frzs_ok S1 R1 e
      cases q2 with
      | cons q2 t =>
        cases t with
        | cons q3 t =>
          cases t
          obtain ⟨a, vs, rfl, r, q⟩ := q2.tupI
          obtain ⟨b, ws, rfl, r3, q3⟩ := q3.tupI
          exact ⟨a, b, vs, ws, rfl, .inr (.inl ⟨(r.ex S2.ex).sq, (r3.ex S2.ex).sq, h1 F2 H1 _ x2 S2 (itOk_zipT r q r3 q3)⟩)⟩
    · rename_i ds es ρ2 e
      obtain ⟨F2, x2, S2, q2⟩ := frzs_ok S1 R1 e
      cases q2 with
      | cons q2 t =>
        cases t with
        | cons q3 t =>
          cases t
          obtain ⟨a, vs, rfl, r, q⟩ := q2.listI
          obtain ⟨b, ws, rfl, r3, q3⟩ := q3.tupI
          exact ⟨a, b, vs, ws, rfl, .inr (.inr ⟨.inl (S2.ex.rd _ _ r), (r3.ex S2.ex).sq, h1 F2 H1 _ x2 S2 (itOk_zipM r q r3 q3)⟩)⟩
    · exact h1.elim

/-! ### for -/
def forF (t : Tg) (b : Sv) : List D → Env → SOut
  | [], ρ => .nx ρ
  | d :: ds, ρ => match t d ρ with
    | some ρ1 => match b ρ1 with
      | .nx ρ2 => forF t b ds ρ2
      | .ct ρ2 => forF t b ds ρ2
      | .bk ρ2 => .nx ρ2
      | o => o
    | none => .bad
def sFor (i : EvI) (t : Tg) (b : Sv) : Sv := fun ρ => (i ρ).bdS fun ds ρ1 => forF t b ds ρ1
theorem drop_at {α : Type} {l : List α} {i : Nat} {d : α} {ds : List α} (h : l.drop i = d :: ds) : l[i]? = some d ∧ l.drop (i + 1) = ds := by
  have a : (l.drop i)[0]? = some d := by rw [h]; rfl
  rw [List.getElem?_drop] at a
  refine ⟨by simpa using a, ?_⟩
  have b : (l.drop i).drop 1 = ds := by rw [h]; rfl
  rw [List.drop_drop] at b
  exact b
theorem for_ok {ws : List Nat} {u : Tg} {J : It} {F0 : Hp} {ds : List D} (hJ : ItOk B.c F0 J ds) (S : St B F0 σ H ρ) (h : SOk B W F0 D' (forF u s ds ρ)) : ∃ W' : Nat → Nat → L2.St → Hp → Prop, (∃ m, W' 0 m σ H) ∧ ∀ i m σ H, W' i m σ H →
      (J.stop i H ∧ D'.nx σ H) ∨ (J.go i H ∧ ∃ N : L2.St → Hp → Prop, (∀ σ' H', N σ' H' → ∃ m', m' < m ∧ W' (i + 1) m' σ' H') ∧ ∀ x H', J.yld i H x H' → tG B ws u x σ H' fun σ2 H2 => tS B W s { D' with nx := N, ct := N, bk := D'.nx } σ2 H2) := by
  refine ⟨fun i m σ H => ∃ F ρ, Ex F0 F ∧ St B F σ H ρ ∧ SOk B W F D' (forF u s (ds.drop i) ρ) ∧ m = (ds.drop i).length, ⟨_, F0, ρ, Ex.refl _, S, h, rfl⟩, ?_⟩
  rintro i m σ H ⟨F, ρ, e0, S, h, rfl⟩
  obtain ⟨go, stop⟩ := hJ F H e0 S.ex i
  cases e : ds.drop i with
  | nil =>
    rw [e] at h
    exact .inl ⟨stop (by simpa using e), h F σ H (Ex.refl _) S⟩
  | cons d es =>
    obtain ⟨e1, e2⟩ := drop_at e
    obtain ⟨go, yl⟩ := go d e1
    rw [e] at h
    rw [forF] at h
    refine .inr ⟨go, fun σ' H' => ∃ F ρ, Ex F0 F ∧ St B F σ' H' ρ ∧ SOk B W F D' (forF u s es ρ), fun σ' H' h => ?_, fun x H' hy => ?_⟩
    · obtain ⟨F, ρ, a, b, c⟩ := h
      exact ⟨es.length, Nat.lt_succ_self _, F, ρ, a, b, by rw [e2]; exact c, by rw [e2]⟩
    · obtain ⟨F1, g, r⟩ := yl x H' hy
      cases e3 : u d ρ with
      | none => rw [e3] at h; exact h.elim
      | some ρ1 =>
        rw [e3] at h
        simp only at h
        refine ⟨F1, ρ, d, ρ1, S.grow g, r, e3, fun σ2 _ S2 => ⟨F1, ρ1, S2, ?_⟩⟩
        have h := h.mono g.f
        have e0' := e0.trans g.f
        cases e4 : s ρ1 with
        | nx ρ2 => rw [e4] at h; exact fun F' σ' H' e' S' => ⟨F', ρ2, e0'.trans e', S', SOk.mono e' h⟩
        | ct ρ2 => rw [e4] at h; exact fun F' σ' H' e' S' => ⟨F', ρ2, e0'.trans e', S', SOk.mono e' h⟩
        | bk ρ2 => rw [e4] at h; exact h
        | rt _ _ => rw [e4] at h; exact h
        | ex _ _ => rw [e4] at h; exact h
        | bad => rw [e4] at h; exact h
theorem s_for {i : EvI} {ws : List Nat} {u : Tg} {l : List Stmt} (hp : PassesOwn (model X.prog X.w) X.A X.env X.xe) (hc : X.calm = true) (hi : PID X B W tg x i) (hg : PGD X B tg ws u) (hb : PSsD X B W l s)
    (hs : ∀ v, foldedSetIterable x X.env v = pure v := by intro _; rfl) : PSD X B W (.For tg x l [] pos) (sFor i u s) :=
  ps_wk (ps_for hp hc hi hg hb hs) fun D σ H ⟨F, ρ, S, h⟩ => ibdS_ok S h fun ds ρ1 F1 H1 J e1 S1 hJ h1 => for_ok hJ S1 h1
end
end Pd
end
section
set_option Elab.async false
set_option linter.all false
set_option maxRecDepth 100000
set_option maxHeartbeats 4000000
namespace Pd
open PySem L2

/-! ### a fresh object is held while something else runs -/
section
variable {B : Bs} {W : WX} {F H : Hp} {σ : L2.St} {ρ : Env} {p : Addr} {o o' : HO}
def Off (σ : L2.St) (ρ : Env) (p : Addr) : Prop := ∀ (i : Nat) (s : Sl), ρ[i]? = some s → s.mine ≠ none → σ[i]? ≠ some (some (.ref p))
theorem St.held (S : St B F σ H ρ) (hp : H p = some o) (hF : F p = none) (h0 : B.H0 p = none) (hs : Off σ ρ p) : St (B.rb (upd B.H0 p o) B.F0) F σ H ρ where
  len := S.len
  ex := S.ex
  sl := fun i s x h1 h2 => by
    have q := S.sl i s x h1 h2
    cases s with
    | u => exact True.intro
    | v d => exact q
    | o d =>
      obtain ⟨a, e1, e2, e3, e4⟩ := q
      subst e1
      have hne : a ≠ p := fun z => hs i _ h1 (by intro z; cases z) (by rw [h2, z])
      exact ⟨a, rfl, e2, by show upd B.H0 p o a = none; rw [upd_ne hne]; exact e3, e4⟩
    | b d => exact q
    | e n => exact q
  sep := S.sep
  keep := fun q u h1 h2 h3 => by
    by_cases hne : q = p
    · subst hne
      have h1 : upd B.H0 q o q = some u := h1
      rw [upd_same] at h1
      cases h1
      exact hp
    · have h1 : upd B.H0 p o q = some u := h1
      rw [upd_ne hne] at h1
      exact S.keep q u h1 h2 h3
  low := S.low
  new := fun q h1 h2 => by
    by_cases hne : q = p
    · subst hne; exact hF
    · have h1 : upd B.H0 p o q ≠ none := h1
      rw [upd_ne hne] at h1
      exact S.new q h1 h2
  dom := fun q h1 => by
    by_cases hne : q = p
    · subst hne; rw [hp]; exact Option.some_ne_none _
    · have h1 : upd B.H0 p o q ≠ none := h1
      rw [upd_ne hne] at h1
      exact S.dom q h1
  iow := fun i q h => by
    show upd B.H0 p o q ≠ none
    by_cases hne : q = p
    · subst hne; rw [upd_same]; exact Option.some_ne_none _
    · rw [upd_ne hne]; exact S.iow i q h
  tab := S.tab
  tb0 := fun q h => by
    show upd B.H0 p o q ≠ none
    by_cases hne : q = p
    · subst hne; rw [upd_same]; exact Option.some_ne_none _
    · rw [upd_ne hne]; exact S.tb0 q h
  tf := S.tf
/-- it stands as it was -/
theorem St.unheld (S : St (B.rb (upd B.H0 p o) B.F0) F σ H ρ) (h0 : B.H0 p = none) (hf : B.F0 p = none) (iow : ∀ i q, B.io i = some q → B.H0 q ≠ none) (tb0 : ∀ q, B.c.tb q → B.H0 q ≠ none) : St B F σ H ρ ∧ H p = some o ∧ F p = none ∧ Off σ ρ p := by
  have off : ∀ i, B.io i ≠ some p := fun i h => iow i p h h0
  have hp : H p = some o := S.keep p o (by show upd B.H0 p o p = _; rw [upd_same]) off fun z => tb0 p z h0
  have hF : F p = none := S.new p (by show upd B.H0 p o p ≠ none; rw [upd_same]; exact Option.some_ne_none _) hf
  have out : ∀ q, B.H0 q ≠ none → q ≠ p := fun q h z => h (by rw [z]; exact h0)
  have up : ∀ q, B.H0 q ≠ none → (B.rb (upd B.H0 p o) B.F0).H0 q ≠ none := fun q h => by show upd B.H0 p o q ≠ none; rw [upd_ne (out q h)]; exact h
  refine ⟨⟨S.len, S.ex, fun i s x h1 h2 => ?_, S.sep, fun q u h1 h2 h3 => ?_, S.low, fun q h1 h2 => S.new q (up q h1) h2, fun q h1 => S.dom q (up q h1), iow, S.tab, tb0, S.tf⟩, hp, hF, fun i s h1 h2 h3 => ?_⟩
  · have q := S.sl i s x h1 h2
    cases s with
    | u => exact True.intro
    | v d => exact q
    | o d =>
      obtain ⟨a, e1, e2, e3, e4⟩ := q
      have e3 : upd B.H0 p o a = none := e3
      have hne : a ≠ p := fun z => by rw [z, upd_same] at e3; cases e3
      rw [upd_ne hne] at e3
      exact ⟨a, e1, e2, e3, e4⟩
    | b d => exact q
    | e n => exact q
  · refine S.keep q u ?_ h2 h3
    show upd B.H0 p o q = some u
    rw [upd_ne (out q (by rw [h1]; exact Option.some_ne_none _))]
    exact h1
  · have q := S.sl i s _ h1 h3
    cases s with
    | u => exact h2 rfl
    | v d => exact h2 rfl
    | o d =>
      obtain ⟨a, e1, e2, e3, e4⟩ := q
      cases e1
      have e3 : upd B.H0 p o p = none := e3
      rw [upd_same] at e3
      cases e3
    | b d =>
      obtain ⟨a, e1, e2, e3, e4⟩ := q
      cases e1
      exact off i e3
    | e n => exact h2 rfl
/-- the held object is changed -/
theorem St.reheld (S : St (B.rb (upd B.H0 p o) B.F0) F σ H ρ) (h0 : B.H0 p = none) (hf : B.F0 p = none) (iow : ∀ i q, B.io i = some q → B.H0 q ≠ none) (tb0 : ∀ q, B.c.tb q → B.H0 q ≠ none) : St (B.rb (upd B.H0 p o') B.F0) F σ (upd H p o') ρ := by
  obtain ⟨S1, hp, hF, off⟩ := S.unheld h0 hf iow tb0
  have apart : ∀ (i : Nat) (s : Sl) (a : Addr), ρ[i]? = some s → s.mine ≠ none → σ[i]? = some (some (.ref a)) → a ≠ p := fun i s a h1 h2 h3 z => off i s h1 h2 (by rw [h3, z])
  have S2 : St B F σ (upd H p o') ρ := by
    refine ⟨S1.len, S1.ex.put hF, fun i s x h1 h2 => ?_, S1.sep, fun q u h1 h2 h3 => ?_, S1.low, S1.new, fun q h => ?_, iow, S1.tab.keep fun q u z e => ?_, tb0, S1.tf⟩
    · have q := S1.sl i s x h1 h2
      cases s with
      | u => exact True.intro
      | v d => exact q
      | o d =>
        obtain ⟨a, e1, e2, e3, e4⟩ := q
        subst e1
        exact ⟨a, rfl, e2, e3, e4.ex (Ex.refl F) (upd_ne (apart i _ a h1 (by intro z; cases z) h2))⟩
      | b d =>
        obtain ⟨a, e1, e2, e3, e4⟩ := q
        subst e1
        exact ⟨a, rfl, e2, e3, e4.ex (Ex.refl F) (upd_ne (apart i _ a h1 (by intro z; cases z) h2))⟩
      | e n => exact q
    · rw [upd_ne (fun z => by rw [z, h0] at h1; cases h1)]
      exact S1.keep q u h1 h2 h3
    · by_cases hne : q = p
      · rw [hne, upd_same]; exact Option.some_ne_none _
      · rw [upd_ne hne]; exact S1.dom q h
    · rw [upd_ne (fun y => by rw [y] at z; exact tb0 p z h0)]
      exact e
  exact S2.held upd_same hF h0 off
end

/-! ### list comprehensions -/
def wipeE (ρ : Env) : List Nat → Env
  | [] => ρ
  | v :: vs => (wipeE ρ vs).set v .u
/-- behind a comprehension: its own slots as they were -/
def backS : Option Sl → Sl
  | some (.v d) => .v d
  | _ => .u
def unwipe (ρ0 ρ : Env) : List Nat → Env
  | [] => ρ
  | v :: vs => (unwipe ρ0 ρ vs).set v (backS ρ0[v]?)
def compF (vs : List Nat) (u : Tg) (c : EvT) (e : Ev) : List D → Env → Option (List D × Env)
  | [], ρ => some ([], ρ)
  | d :: ds, ρ => match u d ρ with
    | some ρ1 => match c ρ1 with
      | .ok false ρ2 => compF vs u c e ds (wipeE ρ2 vs)
      | .ok true ρ2 => match e ρ2 with
        | .ok r ρ3 => match frzR ρ3 r with
          | some (y, ρ4) => match compF vs u c e ds (wipeE ρ4 vs) with
            | some (ys, ρ5) => some (y :: ys, ρ5)
            | none => none
          | none => none
        | _ => none
      | _ => none
    | none => none
noncomputable def eLc (vs : List Nat) (u : Tg) (c : EvT) (e : Ev) (i : EvI) : Ev := fun ρ => (i ρ).bdE fun ds ρ1 => if lineOk ds.length then match compF vs u c e ds (wipeE ρ1 vs) with
  | some (rs, ρ2) => .ok (.f (.list rs)) (unwipe ρ1 ρ2 vs)
  | none => .bad
  else .bad
def tTrue : EvT := fun ρ => .ok true ρ
abbrev WNo : WX := fun _ _ _ _ => False
section
variable {B : Bs} {W : WX} {F F0 H : Hp} {σ σ' : L2.St} {ρ ρ0 : Env} {p : Addr} {o o' : HO}
theorem St.wipe (S : St B F σ H ρ) : ∀ vs : List Nat, St B F (L2.wipe σ vs) H (wipeE ρ vs)
  | [] => S
  | v :: vs => (St.wipe S vs).setU v none
theorem wipe_at {σ : L2.St} {j : Nat} : ∀ {vs : List Nat}, (L2.wipe σ vs)[j]? = if j ∈ vs then (σ[j]?).map (fun _ => none) else σ[j]?
  | [] => by simp [L2.wipe]
  | v :: vs => by
    unfold L2.wipe
    by_cases h : v = j
    · subst h
      rw [if_pos (by simp)]
      by_cases hl : v < σ.length
      · rw [List.getElem?_set_self (by rw [wipe_length]; exact hl), List.getElem?_eq_getElem hl]; rfl
      · rw [List.getElem?_eq_none (by rw [List.length_set, wipe_length]; omega), List.getElem?_eq_none (by omega)]; rfl
    · rw [List.getElem?_set_ne h, wipe_at]
      have : (j ∈ v :: vs) ↔ j ∈ vs := by simp [Ne.symm h]
      simp only [this]
theorem wipe_same {ws vs : List Nat} (m : Same ws (L2.wipe σ vs) σ') (h : ∀ j ∈ ws, j ∈ vs) : L2.wipe σ' vs = L2.wipe σ vs := by
  refine List.ext_getElem? fun j => ?_
  rw [wipe_at, wipe_at]
  have hl : σ'.length = σ.length := by rw [m.len, wipe_length]
  by_cases hj : j ∈ vs
  · rw [if_pos hj, if_pos hj]
    by_cases k : j < σ.length
    · rw [List.getElem?_eq_getElem k, List.getElem?_eq_getElem (by omega)]; rfl
    · rw [List.getElem?_eq_none (by omega), List.getElem?_eq_none (by omega)]
  · rw [if_neg hj, if_neg hj, m.at_ j (fun z => hj (h j z)), wipe_at, if_neg hj]
theorem unwipe_len : ∀ {vs : List Nat}, (Pd.unwipe ρ0 ρ vs).length = ρ.length
  | [] => rfl
  | v :: vs => by rw [Pd.unwipe, List.length_set, unwipe_len]
theorem unwipe_at {j : Nat} : ∀ {vs : List Nat}, (Pd.unwipe ρ0 ρ vs)[j]? = if j ∈ vs then (ρ[j]?).map (fun _ => backS ρ0[j]?) else ρ[j]?
  | [] => by simp [Pd.unwipe]
  | v :: vs => by
    unfold Pd.unwipe
    by_cases h : v = j
    · subst h
      rw [if_pos (by simp)]
      by_cases hl : v < ρ.length
      · rw [List.getElem?_set_self (by rw [unwipe_len]; exact hl), List.getElem?_eq_getElem hl]; rfl
      · rw [List.getElem?_eq_none (by rw [List.length_set, unwipe_len]; omega), List.getElem?_eq_none (l := ρ) (by omega)]; rfl
    · rw [List.getElem?_set_ne h, unwipe_at]
      have : (j ∈ v :: vs) ↔ j ∈ vs := by simp [Ne.symm h]
      simp only [this]
theorem backS_mine (s : Option Sl) : (backS s).mine = none := by
  unfold backS
  split <;> rfl
theorem St.unwipe (S0 : St B F0 σ H ρ0) {H' : Hp} (e : Ex F0 F) {vs : List Nat} (S : St B F (L2.wipe σ vs) H' ρ) : St B F σ H' (Pd.unwipe ρ0 ρ vs) := by
  have mine : ∀ (i : Nat) (s : Sl), (Pd.unwipe ρ0 ρ vs)[i]? = some s → s.mine ≠ none → ρ[i]? = some s ∧ (L2.wipe σ vs)[i]? = σ[i]? := fun i s h1 h2 => by
    rw [unwipe_at] at h1
    by_cases hi : i ∈ vs
    · rw [if_pos hi, Option.map_eq_some_iff] at h1
      obtain ⟨_, _, rfl⟩ := h1
      exact absurd (backS_mine _) h2
    · rw [if_neg hi] at h1
      exact ⟨h1, by rw [wipe_at, if_neg hi]⟩
  refine ⟨by rw [unwipe_len, ← S.len, wipe_length], S.ex, fun i s x h1 h2 => ?_, fun i j s t p h1 h2 h3 h4 h5 h6 => ?_, S.keep, S.low, S.new, S.dom, S.iow, S.tab, S.tb0, S.tf⟩
  · have h1' := h1
    rw [unwipe_at] at h1
    by_cases hi : i ∈ vs
    · rw [if_pos hi, Option.map_eq_some_iff] at h1
      obtain ⟨_, _, rfl⟩ := h1
      cases e0 : ρ0[i]? with
      | none => exact True.intro
      | some s0 =>
        cases s0 with
        | v d =>
          obtain ⟨v, e1, e2⟩ := S0.sl i _ x e0 h2
          exact ⟨v, e1, e2.ex e⟩
        | u => exact True.intro
        | o d => exact True.intro
        | b d => exact True.intro
        | e n => exact True.intro
    · rw [if_neg hi] at h1
      exact S.sl i s x h1 (by rw [wipe_at, if_neg hi]; exact h2)
  · obtain ⟨a1, a2⟩ := mine i s h1 h3
    obtain ⟨b1, b2⟩ := mine j t h2 h4
    exact S.sep i j s t p a1 b1 h3 h4 (a2.trans h5) (b2.trans h6)
end
/-- whatever the entry -/
def tGU (B : Bs) (ws : List Nat) (u : Tg) : TG := fun v σ H Q => ∃ H0 F0, tG (B.rb H0 F0) ws u v σ H Q
def tTU (B : Bs) (c : EvT) : TT := fun σ H Q => ∃ H0 F0, tT (B.rb H0 F0) WNo c σ H Q
def tEU (B : Bs) (e : Ev) : TE := fun σ H Q => ∃ H0 F0, tE (B.rb H0 F0) WNo e σ H Q
theorem pg_ex {X : Cx} {tg : Expr} {B : Bs} {ws : List Nat} {u : Tg} (h : ∀ H0 F0, PGD X (B.rb H0 F0) tg ws u) : PG X tg (tGU B ws u) := ⟨fun pins s σ H v w Q I r q => by
  obtain ⟨H0, F0, q⟩ := q
  exact (h H0 F0).run pins s σ H v w Q I r q⟩
theorem pts_ex {X : Cx} {cs : List Expr} {B : Bs} {c : EvT} (h : ∀ H0 F0, PTs X cs (tT (B.rb H0 F0) WNo c)) : PTs X cs (tTU B c) := ⟨fun pins s σ H Q I q => by
  obtain ⟨H0, F0, q⟩ := q
  exact (h H0 F0).run pins s σ H Q I q⟩
theorem pe_ex {X : Cx} {x : Expr} {B : Bs} {e : Ev} (h : ∀ H0 F0, PED X (B.rb H0 F0) WNo x e) : PE X x (tEU B e) := ⟨fun pins s σ H Q I q => by
  obtain ⟨H0, F0, q⟩ := q
  exact (h H0 F0).run pins s σ H Q I q⟩
abbrev PTsD (X : Cx) (B : Bs) (cs : List Expr) (c : EvT) : Prop := PTs X cs (tT B WNo c)
theorem pts_wk {X : Cx} {cs : List Expr} {t t' : TT} (h : PTs X cs t) (k : ∀ σ H Q, t' σ H Q → t σ H Q) : PTs X cs t' := ⟨fun pins s σ H Q I q => h.run pins s σ H Q I (k σ H Q q)⟩
theorem ts_nil {X : Cx} {B : Bs} : PTsD X B [] tTrue := pts_wk pts_nil fun σ H Q ⟨F, ρ, S, h⟩ => h F H (Ex.refl F) S
theorem ts_one {X : Cx} {B : Bs} {x : Expr} {c : EvT} (h : PTD X B WNo x c) : PTsD X B [x] c := pts_one h
section
variable {X : Cx} {B : Bs} {W : WX} {F F0 H : Hp} {σ σ' : L2.St} {ρ ρ0 : Env} {p : Addr} {o o' : HO} {Q : VK} {vs ws : List Nat} {u : Tg} {c : EvT} {e : Ev} {i : EvI}
theorem lc_ok (hv : ∀ j ∈ ws, j ∈ vs) (h : tE B W (eLc vs u c e i) σ H Q) : tLc (tI B W i) (tGU B ws u) (tTU B c) (tEU B e) vs σ H Q := by
  obtain ⟨F, ρ, S, h⟩ := h
  refine ibdE_ok S h fun ds ρ1 F1 H1 J e1 S1 hJ h1 => ?_
  intro L hL
  split at h1
  · rename_i hz
    cases ec : compF vs u c e ds (wipeE ρ1 vs) with
    | none => rw [ec] at h1; exact h1.elim
    | some q =>
      obtain ⟨rs, ρ2⟩ := q
      rw [ec] at h1
      simp only at h1
      have h0 : B.H0 L = none := S1.fresh hL
      have hFL : F1 L = none := S1.ex.free hL
      have hf : B.F0 L = none := S1.low.free hFL
      have iow := S1.iow
      have tb0 := S1.tb0
      refine ⟨fun j m H' => ∃ F' ρ' as xs bs, Ex F1 F' ∧ St (B.rb (upd B.H0 L (.lst xs)) B.F0) F' (L2.wipe σ vs) H' ρ' ∧ Reps B.c F' as xs ∧ compF vs u c e (ds.drop j) ρ' = some (bs, ρ2) ∧ as ++ bs = rs ∧ m = (ds.drop j).length ∧ xs.length ≤ j,
        ⟨_, F1, wipeE ρ1 vs, [], [], rs, Ex.refl _, ?_, .nil, ec, rfl, rfl, Nat.le_refl _⟩, ?_⟩
      · have S2 := (S1.grow (Grow.own (o := .lst []) S1.ex hL)).wipe vs
        refine S2.held upd_same hFL h0 fun j s h2 h3 h4 => ?_
        have S3 := S1.wipe vs
        have q := S3.sl j s _ h2 h4
        cases e : s.mine with
        | none => exact h3 e
        | some d =>
          obtain ⟨a, z1, _, z3⟩ := q.mine e
          cases z1
          exact z3.there hL
      · rintro j m H' ⟨F', ρ', as, xs, bs, e', S', ra, cf, rfl, rfl, hlen⟩
        obtain ⟨go, stop⟩ := hJ F' H' e' S'.ex j
        cases ed : ds.drop j with
        | nil =>
          refine .inl ⟨stop (by simpa using ed), ?_⟩
          rw [ed, compF] at cf
          cases cf
          obtain ⟨S3, hp, hF, off⟩ := S'.unheld h0 hf iow tb0
          have S4 := S1.unwipe e' S3
          refine h1 F' H' _ e' S4 ⟨L, rfl, hF, h0, .lst hp (by rw [List.append_nil]; exact ra), fun i s h2 h3 h4 => ?_⟩
          rw [unwipe_at] at h2
          by_cases hi : i ∈ vs
          · rw [if_pos hi, Option.map_eq_some_iff] at h2
            obtain ⟨_, _, rfl⟩ := h2
            exact h3 (backS_mine _)
          · rw [if_neg hi] at h2
            exact off i s h2 h3 (by rw [wipe_at, if_neg hi]; exact h4)
        | cons d es =>
          obtain ⟨ed1, ed2⟩ := drop_at ed
          obtain ⟨go, yl⟩ := go d ed1
          rw [ed, compF] at cf
          refine .inr ⟨go, fun H' => ∃ F' ρ' as' xs bs', Ex F1 F' ∧ St (B.rb (upd B.H0 L (.lst xs)) B.F0) F' (L2.wipe σ vs) H' ρ' ∧ Reps B.c F' as' xs ∧ compF vs u c e es ρ' = some (bs', ρ2) ∧ as' ++ bs' = as ++ bs ∧ xs.length ≤ j + 1, fun H' h => ?_, fun x H'' hy => ?_⟩
          · obtain ⟨F', ρ', as, xs, bs, a1, a2, a3, a4, a5, a6⟩ := h
            exact ⟨es.length, Nat.lt_succ_self _, F', ρ', as, xs, bs, a1, a2, a3, by rw [ed2]; exact a4, a5, by rw [ed2], a6⟩
          · obtain ⟨F2, g, r⟩ := yl x H'' hy
            cases eu : u d ρ' with
            | none => rw [eu] at cf; cases cf
            | some ρ3 =>
              rw [eu] at cf
              simp only at cf
              refine ⟨upd B.H0 L (.lst xs), B.F0, F2, ρ', d, ρ3, S'.grow g, r, eu, fun σ2 sm S3 => ?_⟩
              have ew := wipe_same sm hv
              refine ⟨ew, upd B.H0 L (.lst xs), B.F0, F2, ρ3, S3, ?_⟩
              have e2 := e'.trans g.f
              have ra2 := ra.ex g.f
              cases k1 : c ρ3 with
              | ex _ _ => rw [k1] at cf; cases cf
              | bad => rw [k1] at cf; cases cf
              | ok b ρ4 =>
                rw [k1] at cf
                intro F4 H4 x4 S4
                cases b with
                | false =>
                  rw [if_neg Bool.false_ne_true]
                  refine ⟨F4, wipeE ρ4 vs, as, xs, bs, e2.trans x4, ?_, ra2.ex x4, cf, rfl, by omega⟩
                  rw [← ew]
                  exact S4.wipe vs
                | true =>
                  rw [if_pos rfl]
                  simp only at cf
                  refine ⟨upd B.H0 L (.lst xs), B.F0, F4, ρ4, S4, ?_⟩
                  cases k2 : e ρ4 with
                  | ex _ _ => rw [k2] at cf; cases cf
                  | bad => rw [k2] at cf; cases cf
                  | ok r5 ρ5 =>
                    rw [k2] at cf
                    intro F5 H5 y x5 S5 R5
                    simp only at cf
                    cases k3 : frzR ρ5 r5 with
                    | none => rw [k3] at cf; cases cf
                    | some q =>
                      obtain ⟨yd, ρ6⟩ := q
                      rw [k3] at cf
                      simp only at cf
                      obtain ⟨F6, x6, S6, r6⟩ := frzR_ok S5 R5 k3
                      cases k4 : compF vs u c e es (wipeE ρ6 vs) with
                      | none => rw [k4] at cf; cases cf
                      | some q =>
                        obtain ⟨ys, ρ7⟩ := q
                        rw [k4] at cf
                        cases cf
                        have hD : H5 L = some (.lst xs) := S6.keep L _ (by show upd B.H0 L _ L = _; rw [upd_same]) (fun i h => iow i L h h0) fun z => tb0 L z h0
                        have hj := get_lt ed1
                        refine ⟨xs, hD, ?_, F6, wipeE ρ6 vs, as ++ [yd], xs ++ [y], ys, ((e2.trans x4).trans x5).trans x6, ?_, ((ra2.ex x4).ex (x5.trans x6)).append (.cons r6 .nil), k4, by simp, by simp; omega⟩
                        · have := lineOk_le hz
                          omega
                        · rw [← ew]
                          exact (S6.reheld h0 hf iow tb0).wipe vs
  · exact h1.elim
theorem d_lc {elt tg iter : Expr} {ifs : List Expr} {scope : Scope} {own : List (Str × Nat)} {pos : Pos} (hc : X.calm = true) (hN : X.N.Nodup) (hi : PID X B W tg iter i) (ok : BlkOk X.N X.env.scope scope own) (hv : ∀ j ∈ ws, j ∈ own.map (·.2))
    (hg : ∀ (s : Shared) (H : Hp) (C : Addr) (cl : List (Str × Addr)) (fp : List Addr) H0 F0, PGD (X.blk s H scope (compEnvC scope cl C X.env) fp) (B.rb H0 F0) tg ws u)
    (ht : ∀ (s : Shared) (H : Hp) (C : Addr) (cl : List (Str × Addr)) (fp : List Addr) H0 F0, PTsD (X.blk s H scope (compEnvC scope cl C X.env) fp) (B.rb H0 F0) ifs c)
    (he : ∀ (s : Shared) (H : Hp) (C : Addr) (cl : List (Str × Addr)) (fp : List Addr) H0 F0, PED (X.blk s H scope (compEnvC scope cl C X.env) fp) (B.rb H0 F0) WNo elt e) (hs : ∀ x, foldedSetIterable iter X.env x = pure x := by intro _; rfl) :
    PED X B W (.ListComp elt [⟨tg, iter, ifs, 0⟩] scope pos) (eLc (own.map (·.2)) u c e i) :=
  pe_wk (pe_lc hc hN hi ok (fun s H C cl fp => pg_ex (hg s H C cl fp)) (fun s H C cl fp => pts_ex (ht s H C cl fp)) (fun s H C cl fp => pe_ex (he s H C cl fp)) hs) fun σ H Q h => lc_ok hv h
theorem s_setLc {k : Nat} {y : Str} {py : Pos} {elt tg iter : Expr} {ifs : List Expr} {scope : Scope} {own : List (Str × Nat)} {pos spos : Pos} (hc : X.calm = true) (hN : X.N.Nodup) (hy : X.N[k]? = some y) (hyl : X.env.scope.names.lookup y = some .local)
    (hsw : swapsWith (.ListComp elt [⟨tg, iter, ifs, 0⟩] scope pos) (some (.Name y py)) spos.line X.env = pure true) (hi : PID X B W tg iter i) (ok : BlkOk X.N X.env.scope scope own) (hv : ∀ j ∈ ws, j ∈ own.map (·.2))
    (hg : ∀ (s : Shared) (H : Hp) (C : Addr) (cl : List (Str × Addr)) (fp : List Addr) H0 F0, PGD (X.blk s H scope (compEnvC scope cl C X.env) fp) (B.rb H0 F0) tg ws u)
    (ht : ∀ (s : Shared) (H : Hp) (C : Addr) (cl : List (Str × Addr)) (fp : List Addr) H0 F0, PTsD (X.blk s H scope (compEnvC scope cl C X.env) fp) (B.rb H0 F0) ifs c)
    (he : ∀ (s : Shared) (H : Hp) (C : Addr) (cl : List (Str × Addr)) (fp : List Addr) H0 F0, PED (X.blk s H scope (compEnvC scope cl C X.env) fp) (B.rb H0 F0) WNo elt e) (hs : ∀ x, foldedSetIterable iter X.env x = pure x := by intro _; rfl) :
    PSD X B W (.Assign [.Name y py] (.ListComp elt [⟨tg, iter, ifs, 0⟩] scope pos) spos) (sSet k (eLc (own.map (·.2)) u c e i)) :=
  ps_wk (ps_setLc hc hN hy hyl hsw hi ok (fun s H C cl fp => pg_ex (hg s H C cl fp)) (fun s H C cl fp => pts_ex (ht s H C cl fp)) (fun s H C cl fp => pe_ex (he s H C cl fp)) hs) fun D σ H h => by
    obtain ⟨F, ρ, S, h⟩ := h
    refine lc_ok hv ?_
    refine bdS_ok S h fun r ρ1 F1 H1 x e1 S1 R1 h1 => ?_
    cases e : setR ρ1 k r with
    | none => simp only [e] at h1; exact h1.elim
    | some ρ2 =>
      simp only [e] at h1
      obtain ⟨F2, e2, S2⟩ := setR_ok S1 R1 e
      exact h1 F2 _ H1 e2 S2
end
end Pd
end
section
set_option Elab.async false
set_option linter.all false
set_option maxRecDepth 100000
set_option maxHeartbeats 4000000
namespace Pd
open PySem L2

/-! ### methods that change a slot's object -/
def MutD (c : Ct) (r : V → List V → Hp → VK → Prop) (f : D → List D → Option (D × D)) : Prop :=
  ∀ F H p d ds xs d' res Q, Ex F H → F p = none → Own c F H p d → Reps c F ds xs → f d ds = some (d', res) → (∀ o x, Own c F (upd H p o) p d' → Rep c F res x → Q x (upd H p o)) → r (.ref p) xs H Q
def kindIs (T : String) : D → Bool
  | .list _ => T == "list"
  | .dict ((.none, .bool _) :: _) => T == "dict"
  | _ => false
def mineAt (ρ : Env) (i : Nat) : Option (Sl × D) := match ρ[i]? with
  | some s => match s.mine with
    | some d => some (s, d)
    | none => none
  | none => none
theorem mineAt_eq {ρ : Env} {i : Nat} {s : Sl} {d : D} (h : mineAt ρ i = some (s, d)) : ρ[i]? = some s ∧ s.mine = some d := by
  unfold mineAt at h
  split at h
  · rename_i s' e
    split at h
    · rename_i d' e'
      cases h
      exact ⟨e, e'⟩
    · cases h
  · cases h
def eMet (T : String) (i : Nat) (f : D → List D → Option (D × D)) (t : EvA) : Ev := fun ρ => match mineAt ρ i with
  | some (_, d0) => if kindIs T d0 then (t ρ).bdE fun rs ρ1 => match frzs ρ1 rs with
    | some (ds, ρ2) => match mineAt ρ2 i with
      | some (s, d) => match f d ds with
        | some (d', res) => .ok (.v res) (ρ2.set i (s.with d'))
        | none => .bad
      | none => .bad
    | none => .bad
    else .bad
  | none => .bad
section
variable {X : Cx} {B : Bs} {W : WX} {x y z e : Expr} {es : List Expr} {a b : Ev} {t : EvA} {pos apos cpos p : Pos} {F H : Hp} {σ : L2.St} {ρ : Env} {Q : VK} {K : Frag}
theorem tyV_own {c : Ct} {q : Addr} {d : D} {T : String} (h : Own c F H q d) (k : kindIs T d = true) : tyV K T (.ref q) H := by
  cases h with
  | lst h r =>
    have : T = "list" := by simpa [kindIs] using k
    exact .inl ⟨this, _, .inl (.inl h)⟩
  | dK h r =>
    have : T = "dict" := by simpa [kindIs] using k
    exact .inr (.inr (.inl ⟨this, .inl ⟨_, h⟩⟩))
  | dT h r =>
    have : T = "dict" := by simpa [kindIs] using k
    exact .inr (.inr (.inl ⟨this, .inr ⟨_, h⟩⟩))
theorem mine_at {i : Nat} {s : Sl} {d : D} (S : St B F σ H ρ) (h : mineAt ρ i = some (s, d)) : ∃ q, σ[i]? = some (some (.ref q)) ∧ F q = none ∧ Own B.c F H q d := by
  obtain ⟨h1, h2⟩ := mineAt_eq h
  have hl : i < σ.length := by rw [S.len]; exact get_lt h1
  obtain ⟨q, e, r1, r2⟩ := (S.sl i s _ h1 (List.getElem?_eq_getElem hl)).mine h2
  exact ⟨q, by rw [List.getElem?_eq_getElem hl, e], r1, r2⟩
theorem met_ok {T : String} {i : Nat} {r : V → List V → Hp → VK → Prop} {f : D → List D → Option (D × D)} (hr : MutD B.c r f) (h : tE B W (eMet T i f t) σ H Q) :
    tVar i σ H fun x H1 => tyV K T x H1 ∧ tA B W t σ H1 fun xs H2 => r x xs H2 Q := by
  obtain ⟨F, ρ, S, h⟩ := h
  unfold eMet at h
  cases e0 : mineAt ρ i with
  | none => rw [e0] at h; exact h.elim
  | some q =>
    obtain ⟨s0, d0⟩ := q
    rw [e0] at h
    simp only at h
    split at h
    · rename_i hk
      obtain ⟨q, hσ, hF, ho⟩ := mine_at S e0
      refine ⟨.ref q, hσ, tyV_own ho hk, abd_ok S h fun rs ρ1 F1 H1 xs e1 S1 R1 h1 => ?_⟩
      cases e2 : frzs ρ1 rs with
      | none => simp only [e2] at h1; exact h1.elim
      | some w =>
        obtain ⟨ds, ρ2⟩ := w
        simp only [e2] at h1
        obtain ⟨F2, x2, S2, q2⟩ := frzs_ok S1 R1 e2
        cases e3 : mineAt ρ2 i with
        | none => simp only [e3] at h1; exact h1.elim
        | some w =>
          obtain ⟨s, d⟩ := w
          simp only [e3] at h1
          cases e4 : f d ds with
          | none => simp only [e4] at h1; exact h1.elim
          | some w =>
            obtain ⟨d', res⟩ := w
            simp only [e4] at h1
            obtain ⟨q', hσ', hF', ho'⟩ := mine_at S2 e3
            rw [hσ] at hσ'
            cases hσ'
            obtain ⟨m1, m2⟩ := mineAt_eq e3
            refine hr F2 H1 q d ds xs d' res Q S2.ex hF' ho' q2 e4 fun o x ho2 rx => ?_
            exact h1 F2 _ x x2 (S2.mut m1 m2 hσ ho2) rx
    · exact h.elim
theorem d_met {T id : String} {nm : Str} {i : Nat} {r : V → List V → Hp → VK → Prop} {f : D → List D → Option (D × D)} (pa : PlainAttrs T) (slot : Slot T nm id) (hty : typeOf (.builtin id) = pure (.type "method_descriptor")) (hm : MtR X id r) (hr : MutD B.c r f)
    (ho : PE X x (tVar i)) (ha : PAD X B W (e :: es) t)
    (hbase : attributeBase x nm X.env (eval x X.env) = eval x X.env := by rfl)
    (hfew : ((backTo cpos (starEach (e :: es) X.env)).all (fun x => !x.1) && (backToKw cpos (keywordEach [] X.env)).all (fun x => x.1.isSome)
      && decide ((e :: es).length + ([] : List Keyword).length + (if ([] : List Keyword).isEmpty then 0 else 1) < 30)) = true := by rfl)
    (hline : (apos.endLine == cpos.line) = true := by rfl) (hs : starEach (e :: es) X.env = (false, eval e X.env) :: starEach es X.env := by rfl) (hplain : (backTo cpos (starEach es X.env)).any (·.1) = false := by rfl) :
    PED X B W (.Call (.Attribute x nm apos) (e :: es) [] cpos) (eMet T i f t) := pe_wk (pe_bm pa slot hty hm ho ha hbase hfew hline hs hplain) fun σ H Q h => met_ok hr h
theorem d_met0 {T id : String} {nm : Str} {i : Nat} {r : V → List V → Hp → VK → Prop} {f : D → List D → Option (D × D)} (pa : PlainAttrs T) (slot : Slot T nm id) (hty : typeOf (.builtin id) = pure (.type "method_descriptor")) (hm : MtR X id r) (hr : MutD B.c r f)
    (ho : PE X x (tVar i)) (hbase : attributeBase x nm X.env (eval x X.env) = eval x X.env := by rfl) (hline : (apos.endLine == cpos.line) = true := by rfl) :
    PED X B W (.Call (.Attribute x nm apos) [] [] cpos) (eMet T i f aNil) := pe_wk (pe_bm0 pa slot hty hm ho hbase hline) fun σ H Q h => by
      obtain ⟨v, e, ty, F, ρ, S, k⟩ := met_ok (K := X.K) hr h
      exact ⟨v, e, ty, k F H [] (Ex.refl F) S .nil⟩
theorem Own.lstI {c : Ct} {q : Addr} {ds : List D} (h : Own c F H q (.list ds)) : ∃ xs, H q = some (.lst xs) ∧ Reps c F ds xs := by
  cases h with | lst h r => exact ⟨_, h, r⟩
noncomputable def mAppend : D → List D → Option (D × D)
  | .list xs, [y] => if lineOk (xs.length + 1) then some (.list (xs ++ [y]), .none) else none
  | _, _ => none
noncomputable def mExtend : D → List D → Option (D × D)
  | .list xs, [.list ys] => if lineOk (xs.length + ys.length) then some (.list (xs ++ ys), .none) else none
  | _, _ => none
def mPop : D → List D → Option (D × D)
  | .list xs, [] => match xs[xs.length - 1]? with
    | some y => some (.list xs.dropLast, y)
    | none => none
  | _, _ => none
theorem Reps.dropLast {c : Ct} {ds : List D} {vs : List V} (r : Reps c F ds vs) : Reps c F ds.dropLast vs.dropLast := by
  rw [List.dropLast_eq_take, List.dropLast_eq_take, r.length]
  exact r.take _
theorem M_append {c : Ct} : MutD c rAppend mAppend := by
  intro F H p d ds xs d' res Q e hF ho hr hf k
  match d, ds, hr, hf, ho with
  | .list zs, [y], .cons hy .nil, hf, ho =>
    simp only [mAppend] at hf
    split at hf
    · rename_i hl
      cases hf
      obtain ⟨vs, h1, r1⟩ := ho.lstI
      refine ⟨p, vs, _, rfl, rfl, h1, ?_, k _ _ (.lst upd_same (r1.append (.cons hy .nil))) .non⟩
      have := lineOk_le hl
      rw [r1.length]
      omega
    · cases hf
theorem M_extend {c : Ct} : MutD c rExtend mExtend := by
  intro F H p d ds xs d' res Q e hF ho hr hf k
  match d, ds, hr, hf, ho with
  | .list zs, [.list ys], .cons hy .nil, hf, ho =>
    simp only [mExtend] at hf
    split at hf
    · rename_i hl
      cases hf
      obtain ⟨vs, h1, r1⟩ := ho.lstI
      cases hy with
      | lst h2 r2 =>
        refine ⟨p, _, vs, _, rfl, rfl, h1, e.tp _ _ trivial h2, ?_, k _ _ (.lst upd_same (r1.append r2)) .non⟩
        rw [r1.length, r2.length]
        exact lineOk_le hl
    · cases hf
theorem M_pop {c : Ct} : MutD c rPop mPop := by
  intro F H p d ds xs d' res Q e hF ho hr hf k
  match d, ds, hr, hf, ho with
  | .list zs, [], .nil, hf, ho =>
    simp only [mPop] at hf
    split at hf
    · rename_i y hy
      cases hf
      obtain ⟨vs, h1, r1⟩ := ho.lstI
      obtain ⟨v, hv, rv⟩ := r1.getD hy
      exact ⟨p, vs, v, rfl, rfl, h1, by rw [r1.length]; exact hv, k _ _ (.lst upd_same r1.dropLast) rv⟩
    · cases hf

/-! ### x[k] = e -/
noncomputable def fPut (t : Bool) (d k y : D) : Option D := match d with
  | .list xs => match k with
    | .int i => (ixN xs.length i).map fun j => .list (xs.set j y)
    | _ => none
  | d => match asDct d with
    | some (u, kvs) => if keyOk u k && (t || !u) && lineOk (kvs.length + 1) then some (dct u (dPut kvs k y)) else none
    | none => none
noncomputable def sPut (t : Bool) (i : Nat) (ix a : Ev) : Sv := fun ρ => (a ρ).bdS fun r ρ1 => match mineAt ρ1 i with
  | some _ => (ix ρ1).bdS fun r2 ρ2 => match look ρ2 r2, frzR ρ2 r.hold with
    | some k, some (y, ρ3) => match mineAt ρ3 i with
      | some (s, d) => match fPut t d k y with
        | some d' => .nx (ρ3.set i (s.with d'))
        | none => .bad
      | none => .bad
    | _, _ => .bad
  | none => .bad
theorem pset_or {t u : V → V → V → Hp → (Hp → Prop) → Prop} (h : PSet X t) (h' : PSet X u) : PSet X (fun o i v H Q => t o i v H Q ∨ u o i v H Q) := by
  intro pins s σ H o i v ov iv w Q I ro ri rv q
  rcases q with q | q
  · exact h pins s σ H o i v ov iv w Q I ro ri rv q
  · exact h' pins s σ H o i v ov iv w Q I ro ri rv q
theorem put_ok {c : Ct} {t : Bool} {q : Addr} {d d' k y : D} {xk xy : V} {Q : Hp → Prop} (hc : t = true → c.kt = false) (e : Ex F H) (ho : Own c F H q d) (hk : RdX c F H k xk) (hy : Rep c F y xy) (hf : fPut t d k y = some d') (kk : ∀ o, Own c F (upd H q o) q d' → Q (upd H q o)) :
    rSetL (.ref q) xk xy H Q ∨ rSetD (.ref q) xk xy H Q := by
  cases ho with
  | lst h r =>
    cases k with
    | int i =>
      simp only [fPut, Option.map_eq_some_iff] at hf
      obtain ⟨j, hj, rfl⟩ := hf
      exact .inl ⟨q, _, i, j, rfl, hk.int, h, by rw [r.length]; exact hj, kk _ (.lst upd_same (r.set hy j))⟩
    | _ => cases hf
  | dK h r =>
    simp only [fPut, asDct] at hf
    split at hf
    · rename_i hm
      cases hf
      simp only [Bool.and_eq_true] at hm
      obtain ⟨k', e'⟩ := Option.isSome_iff_exists.mp (show (toK k).isSome = true from hm.1.1)
      have := toK_kD e'
      subst this
      refine .inr ⟨q, _, rfl, .inl ⟨_, k', h, hk.key, ?_, rfl⟩, kk _ (.dK upd_same (r.put hy))⟩
      have := lineOk_le hm.2
      rw [r.length]; exact this
    · cases hf
  | dT h r =>
    simp only [fPut, asDct] at hf
    split at hf
    · rename_i hm
      cases hf
      simp only [Bool.and_eq_true] at hm
      obtain ⟨k', e'⟩ := Option.isSome_iff_exists.mp (show (toT k).isSome = true from hm.1.1)
      have := toT_kD e'
      subst this
      obtain ⟨b, rfl, hb⟩ := hk.tkey e (hc (by simpa using hm.1.2))
      refine .inr ⟨q, _, rfl, .inr ⟨_, k', b, h, rfl, hb, ?_, rfl⟩, kk _ (.dT upd_same (r.put hy))⟩
      have := lineOk_le hm.2
      rw [r.length]; exact this
    · cases hf
theorem RdX.mono {c : Ct} {F' : Hp} {d : D} {v : V} (h : RdX c F H d v) (e : Ex F F') : RdX c F' H d v := by
  cases h with
  | rep q => exact .rep (q.ex e)
  | own o => exact .own (o.ex e rfl)
theorem s_put {t : Bool} {i : Nat} {ix : Ev} {pos' : Pos} (hc : t = true → B.c.kt = false) (hu : X.A.units + 64 < cLine) (hv : PED X B W x a) (ho : PE X y (tVar i)) (hi : PED X B W z ix)
    (ha : ∀ v, assign (.Subscript y z pos') X.env v = (do
      let ov ← holding [v] (eval y X.env)
      let iv ← holding [v, ov] (eval z X.env)
      standAt pos'
      holding [v, ov, iv] (setItem ov iv v)
      release [v, ov, iv] []) := by intro _; rfl)
    (hs : swapsWithSole [.Subscript y z pos'] x pos.line X.env = pure false := by rfl) (hw : swappedStores [.Subscript y z pos'] x X.env = pure none := by rfl)
    (h1 : (assignEach [.Subscript y z pos'] X.env).map (·.2) = [assign (.Subscript y z pos') X.env] := by rfl) : PSD X B W (.Assign [.Subscript y z pos'] x pos) (sPut t i ix a) :=
  ps_wk (ps_asg hv (pg_sub ho hi (pset_or set_list (set_dict (by omega))) ha) hs hw h1) fun D σ H ⟨F, ρ, S, h⟩ => bdS_ok S h fun r ρ1 F1 H1 xv e1 S1 R1 h1 => by
    cases e2 : mineAt ρ1 i with
    | none => simp only [e2] at h1; exact h1.elim
    | some w =>
      obtain ⟨s0, d0⟩ := w
      simp only [e2] at h1
      obtain ⟨q, hσ, hF, ho1⟩ := mine_at S1 e2
      obtain ⟨F1', e1', S1', R1'⟩ := R1.hold S1
      refine ⟨.ref q, hσ, bdS_ok S1' (h1.mono e1') fun r2 ρ2 F2 H2 xk e3 S2 R2 h2 => ?_⟩
      cases l : look ρ2 r2 with
      | none => simp only [l] at h2; exact h2.elim
      | some k =>
        cases l2 : frzR ρ2 r.hold with
        | none => simp only [l, l2] at h2; exact h2.elim
        | some w =>
          obtain ⟨yd, ρ3⟩ := w
          simp only [l, l2] at h2
          have R1'' : ResOk B F2 σ H2 ρ2 r.hold xv := R1'.move hold_ne e3
          obtain ⟨F3, e4, S3, ry⟩ := frzR_ok S2 R1'' l2
          cases l3 : mineAt ρ3 i with
          | none => simp only [l3] at h2; exact h2.elim
          | some w =>
            obtain ⟨s, d⟩ := w
            simp only [l3] at h2
            cases l4 : fPut t d k yd with
            | none => simp only [l4] at h2; exact h2.elim
            | some d' =>
              simp only [l4] at h2
              obtain ⟨q', hσ', hF', ho'⟩ := mine_at S3 l3
              rw [hσ] at hσ'
              cases hσ'
              obtain ⟨m1, m2⟩ := mineAt_eq l3
              exact put_ok hc S3.ex ho' ((R2.rd S2 l).mono e4) ry l4 fun o ho2 => h2 F3 σ _ e4 (S3.mut m1 m2 hσ ho2)

/-! ### xs += ys -/
noncomputable def sAugL (i : Nat) (a : Ev) : Sv := fun ρ => match mineAt ρ i with
  | some _ => (a ρ).bdS fun r ρ1 => match frzR ρ1 r with
    | some (y, ρ2) => match mineAt ρ2 i with
      | some (s, d) => match mExtend d [y] with
        | some (d', _) => .nx (ρ2.set i (s.with d'))
        | none => .bad
      | none => .bad
    | none => .bad
  | none => .bad
theorem set_same {σ : L2.St} {i : Nat} {x : Option V} (h : σ[i]? = some x) : σ.set i x = σ := by
  refine List.ext_getElem? fun j => ?_
  by_cases e : i = j
  · subst e; rw [List.getElem?_set_self (get_lt h), h]
  · rw [List.getElem?_set_ne e]
theorem s_augL {i : Nat} {nm : Str} {pos' : Pos} (hN : X.N.Nodup) (hi : X.N[i]? = some nm) (hx : Loc X.env.scope nm) (ha : PED X B W x a)
    (hfn : X.fn nm = true ∨ X.env.scope.names.lookup nm = some .local := by first | exact .inl rfl | exact .inr rfl | assumption) : PSD X B W (.AugAssign (.Name nm pos') .Add x pos) (sAugL i a) :=
  ps_wk (ps_aug hN hi hx ha iop_ext hfn) fun D σ H ⟨F, ρ, S, h⟩ => by
    unfold sAugL at h
    cases e2 : mineAt ρ i with
    | none => simp only [e2] at h; exact h.elim
    | some w =>
      obtain ⟨s0, d0⟩ := w
      simp only [e2] at h
      obtain ⟨q, hσ, hF, ho1⟩ := mine_at S e2
      refine ⟨.ref q, hσ, bdS_ok S h fun r ρ1 F1 H1 xv e1 S1 R1 h1 => ?_⟩
      cases l2 : frzR ρ1 r with
      | none => simp only [l2] at h1; exact h1.elim
      | some w =>
        obtain ⟨yd, ρ2⟩ := w
        simp only [l2] at h1
        obtain ⟨F2, e4, S2, ry⟩ := frzR_ok S1 R1 l2
        cases l3 : mineAt ρ2 i with
        | none => simp only [l3] at h1; exact h1.elim
        | some w =>
          obtain ⟨s, d⟩ := w
          simp only [l3] at h1
          cases l4 : mExtend d [yd] with
          | none => simp only [l4] at h1; exact h1.elim
          | some w =>
            obtain ⟨d', res⟩ := w
            simp only [l4] at h1
            obtain ⟨q', hσ', hF', ho'⟩ := mine_at S2 l3
            rw [hσ] at hσ'
            cases hσ'
            obtain ⟨m1, m2⟩ := mineAt_eq l3
            obtain ⟨l, b, vs, zs, e5, e6, h5, h6, h7, h8⟩ := M_extend (Q := fun x H' => D.nx σ H') F2 H1 q d [yd] [xv] d' res S2.ex hF' ho' (.cons ry .nil) l4 fun o x ho2 rx => h1 F2 σ _ e4 (S2.mut m1 m2 hσ ho2)
            cases e5
            cases e6
            exact ⟨q, b, vs, zs, rfl, rfl, h5, h6, h7, by show D.nx (σ.set i (some (V.ref q))) _; rw [set_same hσ]; exact h8⟩

/-! ### a, b = e, e' by plain names -/
end
/-- results that may be new objects, each at its own place -/
inductive RessF (B : Bs) (F : Hp) (σ : L2.St) (H : Hp) (ρ : Env) : List Res → List V → Prop
  | nil : RessF B F σ H ρ [] []
  | cons {r : Res} {x : V} {rs : List Res} {xs : List V} : ResOk B F σ H ρ r x → (∀ (d : D) (k : Nat) (d' : D), r = Res.f d → rs[k]? = some (Res.f d') → xs[k]? ≠ some x) → RessF B F σ H ρ rs xs → RessF B F σ H ρ (r :: rs) (x :: xs)
def aOwn : List Ev → EvA
  | [] => fun ρ => .ok [] ρ
  | e :: es => fun ρ => (e ρ).bdA fun r ρ1 => (aOwn es ρ1).bd fun rs ρ2 => .ok (r :: rs) ρ2
def OutFOk (B : Bs) (W : WX) (F : Hp) (σ : L2.St) (Q : List V → Hp → Prop) : OutA → Prop
  | .ok rs ρ' => ∀ F' H' xs, Ex F F' → St B F' σ H' ρ' → RessF B F' σ H' ρ' rs xs → Q xs H'
  | .ex c ρ' => ∀ F' H', Ex F F' → St B F' σ H' ρ' → W (.ref (B.ec c)) none σ H'
  | .bad => False
/-- whatever the entry -/
def tEW (B : Bs) (W : WX) (e : Ev) : TE := fun σ H Q => ∃ H0 F0, tE (B.rb H0 F0) W e σ H Q
section
variable {X : Cx} {B : Bs} {W : WX}
theorem pe_exW {x : Expr} {e : Ev} (h : ∀ H0 F0, PED X (B.rb H0 F0) W x e) : PE X x (tEW B W e) := ⟨fun pins s σ H Q I q => by
  obtain ⟨H0, F0, q⟩ := q
  exact (h H0 F0).run pins s σ H Q I q⟩
def tAW (B : Bs) (W : WX) : List Ev → TA
  | [] => tNil
  | e :: es => tCons (tEW B W e) (tAW B W es)
theorem RessF.get {F H : Hp} {σ : L2.St} {ρ : Env} : ∀ {rs : List Res} {xs : List V} {k : Nat} {r : Res}, RessF B F σ H ρ rs xs → rs[k]? = some r → ∃ x, xs[k]? = some x ∧ ResOk B F σ H ρ r x
  | _, _, _, _, .nil, h => by simp at h
  | _, _, 0, _, .cons h _ _, e => by simp at e; subst e; exact ⟨_, rfl, h⟩
  | _, _, k + 1, _, .cons _ _ t, e => by simpa using RessF.get t (by simpa using e)
end
section
variable {B : Bs} {W : WX} {F F1 H : Hp} {σ : L2.St} {ρ : Env}
theorem RessF.unheld {o : HO} {p : Addr} (h0 : B.H0 p = none) {rs : List Res} {xs : List V} (h : RessF (B.rb (upd B.H0 p o) B.F0) F σ H ρ rs xs) : RessF B F σ H ρ rs xs ∧ ∀ (k : Nat) (d : D), rs[k]? = some (Res.f d) → xs[k]? ≠ some (V.ref p) := by
  have one : ∀ r x, ResOk (B.rb (upd B.H0 p o) B.F0) F σ H ρ r x → ResOk B F σ H ρ r x ∧ ∀ d, r = .f d → x ≠ .ref p := fun r x h => by
    cases r with
    | v d => exact ⟨h, fun _ z => nomatch z⟩
    | s i => exact ⟨h, fun _ z => nomatch z⟩
    | f d =>
      obtain ⟨q, e1, e2, e3, e4, e5⟩ := h
      have e3 : upd B.H0 p o q = none := e3
      have hne : q ≠ p := fun z => by rw [z, upd_same] at e3; cases e3
      rw [upd_ne hne] at e3
      exact ⟨⟨q, e1, e2, e3, e4, e5⟩, fun _ _ z => by rw [e1] at z; cases z; exact hne rfl⟩
  constructor
  · induction h with
    | nil => exact .nil
    | cons a b c ih => exact .cons (one _ _ a).1 b ih
  · intro k d e1 e2
    obtain ⟨x, e3, e4⟩ := h.get e1
    rw [e3] at e2
    cases e2
    exact (one _ _ e4).2 d rfl rfl
theorem own_ok : ∀ (es : List Ev) (H0 F0 : Hp) {F H : Hp} {ρ : Env} {Q : List V → Hp → Prop}, St (B.rb H0 F0) F σ H ρ → OutFOk (B.rb H0 F0) W F σ Q (aOwn es ρ) → tAW B W es σ H Q
  | [], H0, F0, F, H, ρ, Q, S, h => h F H [] (Ex.refl F) S .nil
  | e :: es, H0, F0, F, H, ρ, Q, S, h => by
    refine ⟨H0, F0, F, ρ, S, ?_⟩
    simp only [aOwn] at h
    cases e1 : e ρ with
    | bad => rw [e1] at h; exact h
    | ex c ρ1 => rw [e1] at h; exact h
    | ok r ρ1 =>
      rw [e1] at h
      intro F1 H1 x x1 S1 R1
      simp only [Out.bdA] at h
      have next : ∀ H0', St (B.rb H0' F0) F1 σ H1 ρ1 → (∀ F2 H2 ρ2, St (B.rb H0' F0) F2 σ H2 ρ2 → St (B.rb H0 F0) F2 σ H2 ρ2) →
          (∀ F2 H2 ρ2 rs xs, Ex F1 F2 → St (B.rb H0' F0) F2 σ H2 ρ2 → RessF (B.rb H0' F0) F2 σ H2 ρ2 rs xs → RessF (B.rb H0 F0) F2 σ H2 ρ2 (r :: rs) (x :: xs)) → tAW B W es σ H1 fun xs H2 => Q (x :: xs) H2 := fun H0' S2 back ress => by
        refine own_ok es H0' F0 S2 ?_
        cases e2 : aOwn es ρ1 with
        | bad => rw [e2] at h; exact h
        | ex c ρ2 => rw [e2] at h; exact fun F' H' x2 S3 => h F' H' (x1.trans x2) (back _ _ _ S3)
        | ok rs ρ2 => rw [e2] at h; exact fun F' H' xs x2 S3 R3 => h F' H' _ (x1.trans x2) (back _ _ _ S3) (ress _ _ _ _ _ x2 S3 R3)
      cases r with
      | v d => exact next H0 S1 (fun _ _ _ k => k) fun F2 H2 ρ2 rs xs x2 S2 R2 => .cons (ResOk.move R1 (fun d z => nomatch z) x2) (fun _ _ _ z => nomatch z) R2
      | s i => exact next H0 S1 (fun _ _ _ k => k) fun F2 H2 ρ2 rs xs x2 S2 R2 => .cons (ResOk.move R1 (fun d z => nomatch z) x2) (fun _ _ _ z => nomatch z) R2
      | f d =>
        obtain ⟨p, rfl, hF, h0, ho, hs⟩ := R1
        have h0 : H0 p = none := h0
        have hf : F0 p = none := S1.low.free hF
        have hp : ∃ o, H1 p = some o := by
          cases e : H1 p with
          | none => exact absurd e ho.there
          | some o => exact ⟨o, rfl⟩
        obtain ⟨o, hp⟩ := hp
        have S2 := S1.held hp hF h0 hs
        refine next (upd H0 p o) S2 (fun F2 H2 ρ2 k => (St.unheld (B := B.rb H0 F0) k h0 hf S1.iow S1.tb0).1) fun F2 H2 ρ2 rs xs x2 S3 R3 => ?_
        obtain ⟨S4, hp2, hF2, off2⟩ := St.unheld (B := B.rb H0 F0) S3 h0 hf S1.iow S1.tb0
        obtain ⟨R4, ne4⟩ := RessF.unheld (B := B.rb H0 F0) h0 R3
        exact .cons ⟨p, rfl, hF2, h0, ho.ex x2 (hp2.trans hp.symm), off2⟩ (fun _ k d' _ z => ne4 k d' z) R4
/-- the slots' objects among the results become values -/
def frzF (ρ : Env) : List Res → Option (List Res × Env)
  | [] => some ([], ρ)
  | .s i :: rs => match frzR ρ (.s i) with
    | some (d, ρ1) => match frzF ρ1 rs with
      | some (qs, ρ2) => some (.v d :: qs, ρ2)
      | none => none
    | none => none
  | r :: rs => match frzF ρ rs with
    | some (qs, ρ2) => some (r :: qs, ρ2)
    | none => none
def putF (ρ : Env) : List Nat → List Res → Option Env
  | [], [] => some ρ
  | i :: is, .v d :: rs => putF (ρ.set i (.v d)) is rs
  | i :: is, .f d :: rs => putF (ρ.set i (.o d)) is rs
  | _, _ => none
def setAll (σ : L2.St) : List Nat → List V → L2.St
  | i :: is, x :: xs => setAll (σ.set i (some x)) is xs
  | _, _ => σ
theorem frzR_off {i : Nat} {x : V} {d : D} {ρ' : Env} (S : St B F σ H ρ) (R : σ[i]? = some (some x)) (h : frzR ρ (.s i) = some (d, ρ')) : ∃ F', Ex F F' ∧ St B F' σ H ρ' ∧ Rep B.c F' d x ∧ ∀ q, Off σ ρ q → F q = none → F' q = none ∧ Off σ ρ' q := by
  simp only [frzR] at h
  cases e : ρ[i]? with
  | none => rw [e] at h; cases h
  | some s =>
    have q := S.sl i s _ e R
    rw [e] at h
    cases s with
    | u => cases h
    | e _ => cases h
    | b _ => cases h
    | v d' =>
      cases h
      obtain ⟨v, e1, e2⟩ := q
      cases e1
      exact ⟨F, Ex.refl F, S, e2, fun q h1 h2 => ⟨h2, h1⟩⟩
    | o d' =>
      cases h
      obtain ⟨p, e1, hp, h0, ho⟩ := q
      cases e1
      obtain ⟨o, e2, r⟩ := ho.froze hp
      have S1 : St B F σ H (ρ.set i .u) := S.setSl i .u rfl fun _ _ => trivial
      have out : ∀ (j : Nat) (t : Sl), (ρ.set i .u)[j]? = some t → t.mine ≠ none → σ[j]? ≠ some (some (.ref p)) := fun j t h1' h2 h3 => by
        by_cases ij : i = j
        · subst ij
          rw [List.getElem?_set_self (List.getElem?_eq_some_iff.mp e).1] at h1'
          cases h1'
          exact h2 rfl
        · rw [List.getElem?_set_ne ij] at h1'
          exact ij (S.sep i j _ _ p e h1' (by intro z; cases z) h2 R h3)
      have S2 := S1.freezeAt hp h0 e2 out
      have S3 := S2.setSl i (.v d) rfl fun y hy => by
        rw [R] at hy
        cases hy
        exact ⟨_, rfl, r⟩
      rw [List.set_set] at S3
      refine ⟨upd F p o, Ex.new hp, S3, r, fun q h1 h2 => ?_⟩
      have hne : q ≠ p := fun z => h1 i _ e (by intro z; cases z) (by rw [R, z])
      refine ⟨by rw [upd_ne hne]; exact h2, fun j t h3 h4 h5 => ?_⟩
      by_cases ij : i = j
      · subst ij
        rw [List.getElem?_set_self (List.getElem?_eq_some_iff.mp e).1] at h3
        cases h3
        exact h4 rfl
      · rw [List.getElem?_set_ne ij] at h3
        exact h1 j t h3 h4 h5
theorem RessF.fz {F' : Hp} {ρ' : Env} (e : Ex F F') (h : ∀ q, Off σ ρ q → F q = none → F' q = none ∧ Off σ ρ' q) {rs : List Res} {xs : List V} (r : RessF B F σ H ρ rs xs) : RessF B F' σ H ρ' rs xs := by
  induction r with
  | nil => exact .nil
  | @cons r x rs xs a b c ih =>
    refine .cons ?_ b ih
    cases r with
    | v d => exact Rep.ex e a
    | s i => exact a
    | f d =>
      obtain ⟨p, e1, e2, e3, e4, e5⟩ := a
      obtain ⟨h1, h2⟩ := h p e5 e2
      exact ⟨p, e1, h1, e3, e4.ex e rfl, h2⟩
def NoS (rs : List Res) : Prop := ∀ i, Res.s i ∉ rs
theorem frzF_ok : ∀ {rs qs : List Res} {xs : List V} {F : Hp} {ρ ρ' : Env}, St B F σ H ρ → RessF B F σ H ρ rs xs → frzF ρ rs = some (qs, ρ') → ∃ F', Ex F F' ∧ St B F' σ H ρ' ∧ RessF B F' σ H ρ' qs xs ∧ NoS qs ∧ (∀ q, Off σ ρ q → F q = none → F' q = none ∧ Off σ ρ' q) ∧ ∀ (k : Nat) (d : D), qs[k]? = some (Res.f d) → rs[k]? = some (Res.f d)
  | [], _, _, F, ρ, ρ', S, R, h => by
    cases R
    cases h
    exact ⟨F, Ex.refl F, S, .nil, fun i => by simp, fun q h1 h2 => ⟨h2, h1⟩, fun k d h => h⟩
  | .s i :: rs, _, _, F, ρ, ρ', S, .cons a b c, h => by
    simp only [frzF] at h
    cases e1 : frzR ρ (.s i) with
    | none => rw [e1] at h; cases h
    | some w =>
      obtain ⟨d, ρ1⟩ := w
      rw [e1] at h
      simp only at h
      cases e2 : frzF ρ1 rs with
      | none => rw [e2] at h; cases h
      | some w =>
        obtain ⟨qs, ρ2⟩ := w
        rw [e2] at h
        cases h
        obtain ⟨F1, x1, S1, r1, o1⟩ := frzR_off S a e1
        obtain ⟨F2, x2, S2, r2, n2, o2, k2⟩ := frzF_ok S1 (c.fz x1 o1) e2
        refine ⟨F2, x1.trans x2, S2, .cons (r1.ex x2) (fun d k d' z => nomatch z) r2, fun i hi => ?_, fun q h1 h2 => ?_, fun k d h => ?_⟩
        · rcases List.mem_cons.mp hi with z | z
          · cases z
          · exact n2 i z
        · obtain ⟨g1, g2⟩ := o1 q h1 h2
          exact o2 q g2 g1
        · cases k with
          | zero => simp at h
          | succ k => simpa using k2 k d (by simpa using h)
  | .v d0 :: rs, _, _, F, ρ, ρ', S, .cons a b c, h => by
    simp only [frzF] at h
    cases e2 : frzF ρ rs with
    | none => rw [e2] at h; cases h
    | some w =>
      obtain ⟨qs, ρ2⟩ := w
      rw [e2] at h
      cases h
      obtain ⟨F2, x2, S2, r2, n2, o2, k2⟩ := frzF_ok S c e2
      refine ⟨F2, x2, S2, .cons (Rep.ex x2 a) (fun d k d' z => nomatch z) r2, fun i hi => ?_, o2, fun k d h => ?_⟩
      · rcases List.mem_cons.mp hi with z | z
        · cases z
        · exact n2 i z
      · cases k with
        | zero => simpa using h
        | succ k => simpa using k2 k d (by simpa using h)
  | .f d0 :: rs, _, _, F, ρ, ρ', S, .cons a b c, h => by
    simp only [frzF] at h
    cases e2 : frzF ρ rs with
    | none => rw [e2] at h; cases h
    | some w =>
      obtain ⟨qs, ρ2⟩ := w
      rw [e2] at h
      cases h
      obtain ⟨F2, x2, S2, r2, n2, o2, k2⟩ := frzF_ok S c e2
      obtain ⟨p, e1, e2', e3, e4, e5⟩ := a
      obtain ⟨h1, h2⟩ := o2 p e5 e2'
      refine ⟨F2, x2, S2, .cons ⟨p, e1, h1, e3, e4.ex x2 rfl, h2⟩ (fun d k d' z1 z2 => b d k d' z1 (k2 k d' z2)) r2, fun i hi => ?_, o2, fun k d h => ?_⟩
      · rcases List.mem_cons.mp hi with z | z
        · cases z
        · exact n2 i z
      · cases k with
        | zero => simpa using h
        | succ k => simpa using k2 k d (by simpa using h)
theorem RessF.set {i : Nat} {x0 : V} {s : Sl} {rs : List Res} {xs : List V} (n : NoS rs) (hs : s.mine = none ∨ ∀ (k : Nat) (d : D), rs[k]? = some (Res.f d) → xs[k]? ≠ some x0) (r : RessF B F σ H ρ rs xs) : RessF B F (σ.set i (some x0)) H (ρ.set i s) rs xs := by
  induction r with
  | nil => exact .nil
  | @cons r x rs xs a b c ih =>
    refine .cons ?_ b (ih (fun i h => n i (List.mem_cons_of_mem _ h)) ?_)
    · cases r with
      | v d => exact a
      | s i => exact absurd (List.mem_cons_self ..) (n i)
      | f d =>
        obtain ⟨p, e1, e2, e3, e4, e5⟩ := a
        refine ⟨p, e1, e2, e3, e4, fun j t h1 h2 h3 => ?_⟩
        by_cases ij : i = j
        · subst ij
          have l1 := get_lt h1
          have l2 := get_lt h3
          rw [List.length_set] at l1 l2
          rw [List.getElem?_set_self l1] at h1
          rw [List.getElem?_set_self l2] at h3
          cases h1
          cases h3
          rcases hs with hs | hs
          · exact h2 hs
          · exact hs 0 d rfl (by rw [e1]; rfl)
        · rw [List.getElem?_set_ne ij] at h1 h3
          exact e5 j t h1 h2 h3
    · rcases hs with hs | hs
      · exact .inl hs
      · exact .inr fun k d h => by simpa using hs (k + 1) d (by simpa using h)
theorem putF_ok : ∀ {is : List Nat} {rs : List Res} {xs : List V} {σ : L2.St} {ρ ρ' : Env}, St B F σ H ρ → RessF B F σ H ρ rs xs → NoS rs → putF ρ is rs = some ρ' → St B F (setAll σ is xs) H ρ'
  | [], [], _, σ, ρ, ρ', S, .nil, n, h => by cases h; exact S
  | [], _ :: _, _, σ, ρ, ρ', S, r, n, h => by simp [putF] at h
  | _ :: _, [], _, σ, ρ, ρ', S, r, n, h => by simp [putF] at h
  | i :: is, .v d :: rs, x :: xs, σ, ρ, ρ', S, .cons a b c, n, h => by
    have n' : NoS rs := fun i h => n i (List.mem_cons_of_mem _ h)
    have z := putF_ok (S.setV i a) (c.set n' (.inl rfl)) n' h
    exact z
  | i :: is, .f d :: rs, x :: xs, σ, ρ, ρ', S, .cons a b c, n, h => by
    have n' : NoS rs := fun i h => n i (List.mem_cons_of_mem _ h)
    obtain ⟨p, e1, e2, e3, e4, e5⟩ := a
    subst e1
    have z := putF_ok (S.setO i e2 e3 e4 e5) (c.set n' (.inr fun k d' h => b d k d' rfl h)) n' h
    exact z
  | i :: is, .s j :: rs, _, σ, ρ, ρ', S, r, n, h => by simp [putF] at h
def sPar (is : List Nat) (es : List Ev) : Sv := fun ρ => match aOwn es ρ with
  | .ok rs ρ1 => match frzF ρ1 rs with
    | some (qs, ρ2) => match putF ρ2 is qs with
      | some ρ3 => .nx ρ3
      | none => .bad
    | none => .bad
  | .ex c ρ1 => .ex c ρ1
  | .bad => .bad
theorem par_ok {D : Ends} {is : List Nat} {es : List Ev} (h : tS B W (sPar is es) D σ H) : tAW B W es σ H fun xs H' => D.nx (setAll σ is xs) H' := by
  obtain ⟨F, ρ, S, h⟩ := h
  refine own_ok es B.H0 B.F0 S ?_
  unfold sPar at h
  cases e : aOwn es ρ with
  | bad => rw [e] at h; exact h
  | ex c ρ1 => rw [e] at h; exact fun F' H' x S' => h F' σ H' x S'
  | ok rs ρ1 =>
    rw [e] at h
    intro F' H' xs x1 S1 R1
    simp only at h
    cases e2 : frzF ρ1 rs with
    | none => rw [e2] at h; exact h.elim
    | some w =>
      obtain ⟨qs, ρ2⟩ := w
      rw [e2] at h
      simp only at h
      cases e3 : putF ρ2 is qs with
      | none => rw [e3] at h; exact h.elim
      | some ρ3 =>
        rw [e3] at h
        obtain ⟨F2, x2, S2, r2, n2, _, _⟩ := frzF_ok S1 R1 e2
        exact h F2 _ H' (x1.trans x2) (putF_ok S2 r2 n2 e3)
theorem tAW_wk : ∀ (es : List Ev) {σ : L2.St} {H : Hp} {Q R : List V → Hp → Prop}, (∀ xs H', xs.length = es.length → Q xs H' → R xs H') → tAW B W es σ H Q → tAW B W es σ H R := by
  intro es
  induction es with
  | nil => exact fun k h => k [] _ rfl h
  | cons e es ih =>
    intro σ H Q R k h
    obtain ⟨H0, F0, F, ρ, S, h⟩ := h
    refine ⟨H0, F0, F, ρ, S, ?_⟩
    cases e1 : e ρ with
    | bad => rw [e1] at h; exact h
    | ex c ρ1 => rw [e1] at h; exact h
    | ok r ρ1 => rw [e1] at h; exact fun F1 H1 x x1 S1 R1 => ih (fun xs H' hl q => k _ _ (by rw [List.length_cons, List.length_cons, hl]) q) (h F1 H1 x x1 S1 R1)
end
section
variable {X : Cx} {B : Bs} {W : WX} {x y z : Expr} {xs : List Expr} {es : List Ev} {a b d : Ev} {pos : Pos}
abbrev PAWD (X : Cx) (B : Bs) (W : WX) (xs : List Expr) (es : List Ev) : Prop := PA X xs (tAW B W es)
theorem aw_nil : PAWD X B W [] [] := pa_nil
theorem aw_cons (ha : ∀ H0 F0, PED X (B.rb H0 F0) W x a) (ht : PAWD X B W xs es) (hs : starEach (x :: xs) X.env = (false, eval x X.env) :: starEach xs X.env := by rfl) : PAWD X B W (x :: xs) (a :: es) := pa_cons (pe_exW ha) ht hs
theorem s_par {i j : Nat} {m n : Str} {px py pt : Pos} {kt k2 : Nat} {pt2 : Pos} (hc : X.calm = true) (hN : X.N.Nodup) (hi : X.N[i]? = some m) (hj : X.N[j]? = some n) (hij : i ≠ j)
    (hx : X.env.scope.names.lookup m = some .local) (hy : X.env.scope.names.lookup n = some .local) (ha : PAWD X B W [x, y] [a, b])
    (hw : swappedStores [.Tuple [.Name m px, .Name n py] kt pt] (.Tuple [x, y] k2 pt2) X.env = pure (some [m, n]))
    (hs : swapsWithSole [.Tuple [.Name m px, .Name n py] kt pt] (.Tuple [x, y] k2 pt2) pos.line X.env = pure false := by rfl) :
    PSD X B W (.Assign [.Tuple [.Name m px, .Name n py] kt pt] (.Tuple [x, y] k2 pt2) pos) (sPar [i, j] [a, b]) :=
  ps_wk (ps_par hc hN hi hj hij hx hy ha hw hs) fun D σ H h => by
    refine tAW_wk _ (fun xs H' hl q => ?_) (par_ok h)
    match xs, hl, q with
    | [v, w], _, q => exact ⟨v, w, rfl, q⟩
theorem s_par3 {i j l : Nat} {m n o : Str} {px py pz pt : Pos} {kt k2 : Nat} {pt2 : Pos} (hc : X.calm = true) (hN : X.N.Nodup) (hi : X.N[i]? = some m) (hj : X.N[j]? = some n) (hl : X.N[l]? = some o) (hij : i ≠ j) (hil : i ≠ l) (hjl : j ≠ l)
    (hx : X.env.scope.names.lookup m = some .local) (hy : X.env.scope.names.lookup n = some .local) (hz : X.env.scope.names.lookup o = some .local) (ha : PAWD X B W [x, y, z] [a, b, d])
    (hw : swappedStores [.Tuple [.Name m px, .Name n py, .Name o pz] kt pt] (.Tuple [x, y, z] k2 pt2) X.env = pure (some [m, n, o]))
    (hs : swapsWithSole [.Tuple [.Name m px, .Name n py, .Name o pz] kt pt] (.Tuple [x, y, z] k2 pt2) pos.line X.env = pure false := by rfl) :
    PSD X B W (.Assign [.Tuple [.Name m px, .Name n py, .Name o pz] kt pt] (.Tuple [x, y, z] k2 pt2) pos) (sPar [i, j, l] [a, b, d]) :=
  ps_wk (ps_par3 hc hN hi hj hl hij hil hjl hx hy hz ha hw hs) fun D σ H h => by
    refine tAW_wk _ (fun xs H' hl q => ?_) (par_ok h)
    match xs, hl, q with
    | [u, v, w], _, q => exact ⟨u, v, w, rfl, q⟩
end
end Pd
end
section
set_option Elab.async false
set_option linter.all false
set_option maxRecDepth 100000
set_option maxHeartbeats 4000000
namespace Pd
open PySem L2

/-! ### isinstance -/
def kindOf : D → Option String
  | .none => some "NoneType"
  | .bool _ => some "bool"
  | .int _ => some "int"
  | .str _ => some "str"
  | .list _ => some "list"
  | .tuple _ => some "tuple"
  | .dict ((.none, .bool _) :: _) => some "dict"
  | _ => none
def isT (a T : String) : Bool := a == T || (a == "bool" && T == "int")
def fIsi (T : String) (d : D) : Option Bool := (kindOf d).map fun a => isT a T
/-- the classes that a law asks for -/
def tyFine (T : String) : Bool := T == "int" || T == "bool" || T == "str" || T == "list" || T == "tuple" || T == "dict"
theorem kit_all {T a : String} (hT : tyFine T = true) (ha : a = "NoneType" ∨ a = "bool" ∨ a = "int" ∨ a = "str" ∨ a = "list" ∨ a = "tuple" ∨ a = "dict") : kitB a T = some (isT a T) := by
  simp only [tyFine, Bool.or_eq_true, beq_iff_eq] at hT
  rcases ha with rfl | rfl | rfl | rfl | rfl | rfl | rfl <;> rcases hT with ((((rfl | rfl) | rfl) | rfl) | rfl) | rfl <;> decide +kernel
section
variable {c : Ct} {F H : Hp}
theorem tyx_seq {K : Frag} {a : Addr} {xs : List V} (h : SqT K H a xs) : TyX K H (.ref a) (.type "tuple") := by
  rcases h with (h | ⟨o, h⟩) | ⟨o, its, n, h1, h2, _⟩
  · exact .base (.tup h)
  · exact .fTuple h
  · exact .kTuple h1 h2
theorem kind_ok {d : D} {x : V} {a : String} (e : Ex F H) (h : RdX c F H d x) (hk : kindOf d = some a) (hd : a ≠ "dict") : TyX c.K H x (.type a) := by
  cases d with
  | none => cases hk; rw [h.non]; exact .base .non
  | bool b => cases hk; rw [h.bool]; exact .base (.bl b)
  | int b => cases hk; rw [h.int]; exact .base (.int b)
  | str b => cases hk; rw [h.str]; exact .base (.str b)
  | list ds => cases hk; obtain ⟨p, xs, rfl, r, _⟩ := h.listX e; exact .base (.lst r)
  | tuple ds => cases hk; obtain ⟨p, xs, rfl, r, _⟩ := h.tuple e; exact tyx_seq r
  | dict ps =>
    exfalso
    match ps, hk with
    | (.none, .bool _) :: _, hk => cases hk; exact hd rfl
theorem kind_some {d : D} {a : String} (hk : kindOf d = some a) : a = "NoneType" ∨ a = "bool" ∨ a = "int" ∨ a = "str" ∨ a = "list" ∨ a = "tuple" ∨ a = "dict" := by
  unfold kindOf at hk
  split at hk <;> cases hk <;> simp
end
section
variable {X : Cx} {B : Bs} {W : WX} {x y z : Expr} {xs : List Expr} {a b d : Ev} {pos p p2 : Pos}
/-- isinstance(x, T), no dict -/
def fIsiV (T : String) (d : D) : Option Res := match kindOf d with
  | some a => if a = "dict" then none else some (.v (.bool (isT a T)))
  | none => none
theorem d_isi {T : String} {nm : Str} (hK : B.c.K = X.K) (hT : tyFine T = true) (hg : Gl X "isinstance") (hm : X.mg "isinstance" = none) (hgT : Gl X nm) (hmT : X.mg nm = none) (hv : bootBuiltins nm = some (.type T)) (ha : PED X B W x a)
    (hn : nm ≠ "__name__" := by decide) (hdb : (nm == ("__debug__" : Str)) = false := by decide)
    (s1 : starEach [.Name nm p2] X.env = (false, eval (.Name nm p2) X.env) :: starEach [] X.env := by rfl)
    (he : starEach [x, .Name nm p2] X.env = (false, eval x X.env) :: starEach [.Name nm p2] X.env := by rfl) (hpl : (backTo pos (starEach [.Name nm p2] X.env)).any (·.1) = false := by rfl) :
    PED X B W (.Call (.Name "isinstance" p) [x, .Name nm p2] [] pos) (e1 (fIsiV T) a) :=
  pe_wk (pe_callB call_isi hg hm PyProof.Rows.boot_isinstance (pa_cons ha (pa_cons (pe_bltn hgT hmT hv (v := .ty T) rfl hn hdb) pa_nil s1) he) (by decide) (by decide) he hpl) fun σ H Q ⟨F, ρ, S, h⟩ => by
    refine bd_ok S h fun r1 ρ1 F1 H1 xv e1 S1 R1 h1 => ?_
    cases l1 : look ρ1 r1 with
    | none => simp only [l1] at h1; exact h1.elim
    | some dv =>
      simp only [l1] at h1
      have rx := R1.rd S1 l1
      unfold fIsiV at h1
      cases hk : kindOf dv with
      | none => rw [hk] at h1; exact h1.elim
      | some ka =>
        rw [hk] at h1
        simp only at h1
        split at h1
        · exact h1.elim
        · rename_i hd
          have ty := kind_ok S1.ex rx hk hd
          rw [hK] at ty
          exact ⟨xv, .ty T, _, _, isT ka T, rfl, .ty T, ty, kit_ty (kit_all hT (kind_some hk)), h1 F1 H1 _ (Ex.refl _) S1 (.bl _)⟩
/-- a global that holds data -/
theorem d_glob {nm : Str} {d : D} {v : V} {u : Value} (hg : Gl X nm) (hm : X.mg nm = some u) (r : RelV v u) (hr : ∀ F, Rep B.c F d v) (hd : (nm == ("__debug__" : Str)) = false := by decide) : PED X B W (.Name nm pos) (eC d) := d_c (pe_glob hg hm r hd) hr
end
end Pd
end
section
set_option Elab.async false
set_option linter.all false
set_option maxRecDepth 100000
set_option maxHeartbeats 4000000
namespace Pd
open PySem L2 PyProof.Rows

/-! ### what a def promises, by data -/
/-- its end: a value, a new object, an error by its class's name; each with what the changed parameters hold -/
inductive FOut where
  | ret (d : D) (os : List D) | own (d : D) (os : List D) | ex (c : String) (os : List D) | bad
abbrev Fn := List D → FOut
/-- the arguments: by value, or (true) an object that is changed -/
inductive Args (c : Ct) (F H : Hp) : List Bool → List D → List V → List Addr → Prop
  | nil : Args c F H [] [] [] []
  | val {d : D} {v : V} {ms : List Bool} {ds : List D} {vs : List V} {ps : List Addr} : Rep c F d v → Args c F H ms ds vs ps → Args c F H (false :: ms) (d :: ds) (v :: vs) ps
  | io {d : D} {p : Addr} {ms : List Bool} {ds : List D} {vs : List V} {ps : List Addr} : F p = none → Own c F H p d → p ∉ ps → Args c F H ms ds vs ps → Args c F H (true :: ms) (d :: ds) (.ref p :: vs) (p :: ps)
/-- the changed parameters behind the call -/
inductive Outs (c : Ct) (F H : Hp) : List Addr → List D → Prop
  | nil : Outs c F H [] []
  | cons {p : Addr} {d : D} {ps : List Addr} {ds : List D} : Own c F H p d → Outs c F H ps ds → Outs c F H (p :: ps) (d :: ds)
structure After (c : Ct) (F H F' H' : Hp) (ps : List Addr) (os : List D) : Prop where
  f : Ex F F'
  ex : Ex F' H'
  keep : ∀ q o, H q = some o → q ∉ ps → ¬ c.tb q → H' q = some o
  new : ∀ q, H q ≠ none → F q = none → F' q = none
  dom : ∀ q, H q ≠ none → H' q ≠ none
  os : Outs c F' H' ps os
  tab : TabOk c H'
def FOk (c : Ct) (ec : String → Addr) (F H : Hp) (ps : List Addr) (Q : VK) (E : XK) : FOut → Prop
  | .ret d os => ∀ F' H' v, After c F H F' H' ps os → Rep c F' d v → Q v H'
  | .own d os => ∀ F' H' p, After c F H F' H' ps os → F' p = none → H p = none → Own c F' H' p d → Q (.ref p) H'
  | .ex n os => ∀ F' H', After c F H F' H' ps os → E (.ref (ec n)) none H'
  | .bad => False
def spD (c : Ct) (ec : String → Addr) (ms : List Bool) (f : Fn) : Sp := fun vs H Q E => ∃ F ds ps, Ex F H ∧ (TabOk c H ∧ TfOk c F) ∧ Args c F H ms ds vs ps ∧ FOk c ec F H ps Q E (f ds)
section
variable {c : Ct} {F H F' H' : Hp} {ms : List Bool} {ds : List D} {vs : List V} {ps : List Addr}
theorem Args.len (h : Args c F H ms ds vs ps) : vs.length = ms.length := by
  induction h with
  | nil => rfl
  | val _ _ ih => rw [List.length_cons, List.length_cons, ih]
  | io _ _ _ _ ih => rw [List.length_cons, List.length_cons, ih]
theorem Args.lenD (h : Args c F H ms ds vs ps) : ds.length = ms.length := by
  induction h with
  | nil => rfl
  | val _ _ ih => rw [List.length_cons, List.length_cons, ih]
  | io _ _ _ _ ih => rw [List.length_cons, List.length_cons, ih]
/-- the slots at the entry -/
def inSl : List Bool → List D → List Sl
  | true :: ms, d :: ds => .b d :: inSl ms ds
  | false :: ms, d :: ds => .v d :: inSl ms ds
  | _, _ => []
def initE (n : Nat) (ms : List Bool) (ds : List D) : Env := inSl ms ds ++ List.replicate (n - ms.length) .u
/-- which slots are changed parameters -/
def ioIx : List Bool → Nat → List Nat
  | true :: ms, i => i :: ioIx ms (i + 1)
  | false :: ms, i => ioIx ms (i + 1)
  | [], _ => []
def ioAt : List Bool → List V → Nat → Option Addr
  | true :: _, .ref p :: _, 0 => some p
  | _ :: ms, _ :: vs, i + 1 => ioAt ms vs i
  | _, _, _ => none
def outsOf (ρ : Env) : List Nat → Option (List D)
  | [] => some []
  | i :: is => match ρ[i]? with
    | some (.b d) => match outsOf ρ is with
      | some ds => some (d :: ds)
      | none => none
    | _ => none
/-- a body as a function -/
def toFn (n : Nat) (ms : List Bool) (b : Sv) : Fn := fun ds => match b (initE n ms ds) with
  | .nx ρ => match outsOf ρ (ioIx ms 0) with
    | some os => .ret .none os
    | none => .bad
  | .rt (.v d) ρ => match outsOf ρ (ioIx ms 0) with
    | some os => .ret d os
    | none => .bad
  | .rt (.f d) ρ => match outsOf ρ (ioIx ms 0) with
    | some os => .own d os
    | none => .bad
  | .rt (.s i) ρ => match ρ[i]? with
    | some (.o d) => match outsOf ρ (ioIx ms 0) with
      | some os => .own d os
      | none => .bad
    | _ => .bad
  | .ex c ρ => match outsOf ρ (ioIx ms 0) with
    | some os => .ex c os
    | none => .bad
  | _ => .bad
theorem inSl_len (h : Args c F H ms ds vs ps) : (inSl ms ds).length = ms.length := by
  induction h with
  | nil => rfl
  | val _ _ ih => simp [inSl, ih]
  | io _ _ _ _ ih => simp [inSl, ih]
theorem args_sl (h : Args c F H ms ds vs ps) : ∀ {i : Nat} {s : Sl}, (inSl ms ds)[i]? = some s → ∃ v, vs[i]? = some v ∧ ((∃ d, s = .v d ∧ Rep c F d v) ∨ ∃ d p, s = .b d ∧ v = .ref p ∧ F p = none ∧ Own c F H p d ∧ ioAt ms vs i = some p ∧ p ∈ ps) := by
  induction h with
  | nil => intro i s h; simp [inSl] at h
  | val r _ ih =>
    intro i s h
    cases i with
    | zero => simp [inSl] at h; subst h; exact ⟨_, rfl, .inl ⟨_, rfl, r⟩⟩
    | succ i => simp [inSl] at h; simpa [ioAt] using ih h
  | io h1 h2 h3 _ ih =>
    intro i s h
    cases i with
    | zero => simp [inSl] at h; subst h; exact ⟨_, rfl, .inr ⟨_, _, rfl, rfl, h1, h2, rfl, List.mem_cons_self ..⟩⟩
    | succ i =>
      simp [inSl] at h
      obtain ⟨v, e, k⟩ := ih h
      refine ⟨v, by simpa using e, ?_⟩
      rcases k with k | ⟨d, p, a1, a2, a3, a4, a5, a6⟩
      · exact .inl k
      · exact .inr ⟨d, p, a1, a2, a3, a4, a5, List.mem_cons_of_mem _ a6⟩
theorem ioAt_mem (h : Args c F H ms ds vs ps) : ∀ {i : Nat} {p : Addr}, ioAt ms vs i = some p → p ∈ ps ∧ H p ≠ none ∧ F p = none ∧ vs[i]? = some (.ref p) := by
  induction h with
  | nil => intro i p h; cases i <;> simp [ioAt] at h
  | val r _ ih =>
    intro i p h
    cases i with
    | zero => simp [ioAt] at h
    | succ i => obtain ⟨a, b, c', d'⟩ := ih (by simpa [ioAt] using h); exact ⟨a, b, c', by simpa using d'⟩
  | io h1 h2 h3 _ ih =>
    intro i p h
    cases i with
    | zero => simp [ioAt] at h; subst h; exact ⟨List.mem_cons_self .., h2.there, h1, rfl⟩
    | succ i => obtain ⟨a, b, c', d'⟩ := ih (by simpa [ioAt] using h); exact ⟨List.mem_cons_of_mem _ a, b, c', by simpa using d'⟩
theorem ioAt_inj (h : Args c F H ms ds vs ps) : ∀ {i j : Nat} {p : Addr}, ioAt ms vs i = some p → ioAt ms vs j = some p → i = j := by
  induction h with
  | nil => intro i j p h; cases i <;> simp [ioAt] at h
  | val r _ ih =>
    intro i j p h k
    cases i with
    | zero => simp [ioAt] at h
    | succ i =>
      cases j with
      | zero => simp [ioAt] at k
      | succ j =>
        have z := ih (i := i) (j := j) (p := p) (by simpa [ioAt] using h) (by simpa [ioAt] using k)
        omega
  | io h1 h2 h3 ha ih =>
    intro i j p h k
    cases i with
    | zero =>
      cases j with
      | zero => rfl
      | succ j =>
        simp [ioAt] at h k
        subst h
        exact absurd (ioAt_mem ha k).1 h3
    | succ i =>
      cases j with
      | zero =>
        simp [ioAt] at h k
        subst k
        exact absurd (ioAt_mem ha h).1 h3
      | succ j =>
        have z := ih (i := i) (j := j) (p := p) (by simpa [ioAt] using h) (by simpa [ioAt] using k)
        omega
/-- every changed parameter has its slot -/
theorem io_all (h : Args c F H ms ds vs ps) : ∀ p ∈ ps, ∃ i, ioAt ms vs i = some p := by
  induction h with
  | nil => intro p hp; cases hp
  | val r _ ih => intro p hp; obtain ⟨i, e⟩ := ih p hp; exact ⟨i + 1, by simpa [ioAt] using e⟩
  | io h1 h2 h3 _ ih =>
    intro p hp
    rcases List.mem_cons.mp hp with rfl | hp
    · exact ⟨0, rfl⟩
    · obtain ⟨i, e⟩ := ih p hp; exact ⟨i + 1, by simpa [ioAt] using e⟩
def bsOf (c : Ct) (ec : String → Addr) (F H : Hp) (ms : List Bool) (vs : List V) : Bs := ⟨c, H, F, ioAt ms vs, ec, 0, ""⟩
theorem st_init {ec : String → Addr} {N : List Str} (e : Ex F H) (tk : TabOk c H ∧ TfOk c F) (h : Args c F H ms ds vs ps) (hn : ms.length ≤ N.length) : St (bsOf c ec F H ms vs) F (L2.start N vs) H (initE N.length ms ds) where
  len := by
    unfold L2.start initE
    rw [List.length_append, List.length_append, List.length_map, List.length_replicate, List.length_replicate, h.len, inSl_len h]
  ex := e
  sl := fun i s x h1 h2 => by
    unfold initE at h1
    unfold L2.start at h2
    by_cases hi : i < ms.length
    · rw [List.getElem?_append_left (by rw [inSl_len h]; exact hi)] at h1
      rw [List.getElem?_append_left (by rw [List.length_map, h.len]; exact hi), List.getElem?_map] at h2
      obtain ⟨v, e1, k⟩ := args_sl h h1
      rw [e1] at h2
      cases h2
      rcases k with ⟨d, rfl, r⟩ | ⟨d, p, rfl, rfl, a1, a2, a3, _⟩
      · exact ⟨v, rfl, r⟩
      · exact ⟨p, rfl, a1, a3, a2⟩
    · rw [List.getElem?_append_right (by rw [inSl_len h]; omega)] at h1
      have : s = .u := by
        have := List.mem_of_getElem? h1
        exact (List.mem_replicate.mp this).2
      subst this
      exact True.intro
  sep := fun i j s t p h1 h2 h3 h4 h5 h6 => by
    have one : ∀ (i : Nat) (s : Sl), (initE N.length ms ds)[i]? = some s → s.mine ≠ none → (L2.start N vs)[i]? = some (some (.ref p)) → ioAt ms vs i = some p := fun i s h1 h2 h3 => by
      unfold initE at h1
      unfold L2.start at h3
      by_cases hi : i < ms.length
      · rw [List.getElem?_append_left (by rw [inSl_len h]; exact hi)] at h1
        rw [List.getElem?_append_left (by rw [List.length_map, h.len]; exact hi), List.getElem?_map] at h3
        obtain ⟨v, e1, k⟩ := args_sl h h1
        rw [e1] at h3
        cases h3
        rcases k with ⟨d, rfl, r⟩ | ⟨d, p', rfl, e2, a1, a2, a3, _⟩
        · exact absurd rfl h2
        · cases e2; exact a3
      · rw [List.getElem?_append_right (by rw [inSl_len h]; omega)] at h1
        have : s = .u := (List.mem_replicate.mp (List.mem_of_getElem? h1)).2
        subst this
        exact absurd rfl h2
    exact ioAt_inj h (one i s h1 h3 h5) (one j t h2 h4 h6)
  keep := fun q o h1 _ _ => h1
  low := Ex.refl F
  new := fun q _ h2 => h2
  dom := fun q h => h
  iow := fun i q h1 => (ioAt_mem h h1).2.1
  tab := tk.1
  tb0 := fun q z => tk.1.dom z
  tf := tk.2
theorem outs_ok {ec : String → Addr} {σ : L2.St} {ρ : Env} (h : Args c F H ms ds vs ps) (S : St (bsOf c ec F H ms vs) F' σ H' ρ) : ∀ {ms' : List Bool} {ds' : List D} {vs' : List V} {ps' : List Addr} (i0 : Nat), Args c F H ms' ds' vs' ps' →
    (∀ i, ioAt ms vs (i0 + i) = ioAt ms' vs' i) → ∀ {os : List D}, outsOf ρ (ioIx ms' i0) = some os → Outs c F' H' ps' os := by
  intro ms' ds' vs' ps' i0 h'
  induction h' generalizing i0 with
  | nil => intro _ os ho; cases ho; exact .nil
  | val r _ ih =>
    intro hi os ho
    exact ih (i0 + 1) (fun i => by have := hi (i + 1); rw [← Nat.add_assoc, Nat.add_right_comm] at this; simpa [ioAt] using this) ho
  | @io d p ms'' ds'' vs'' ps'' h1 h2 h3 _ ih =>
    intro hi os ho
    simp only [ioIx, outsOf] at ho
    cases e : ρ[i0]? with
    | none => rw [e] at ho; cases ho
    | some s =>
      rw [e] at ho
      cases s with
      | b d' =>
        simp only at ho
        cases e2 : outsOf ρ (ioIx ms'' (i0 + 1)) with
        | none => rw [e2] at ho; cases ho
        | some os' =>
          rw [e2] at ho
          cases ho
          refine .cons ?_ (ih (i0 + 1) (fun i => by have := hi (i + 1); rw [← Nat.add_assoc, Nat.add_right_comm] at this; simpa [ioAt] using this) e2)
          have hl : i0 < σ.length := by rw [S.len]; exact get_lt e
          obtain ⟨p', e3, e4, e5, e6⟩ := S.sl i0 _ _ e (List.getElem?_eq_getElem hl)
          have := hi 0
          rw [Nat.add_zero] at this
          have e5 : ioAt ms vs i0 = some p' := e5
          rw [this] at e5
          cases e5
          exact e6
      | u => cases ho
      | v _ => cases ho
      | o _ => cases ho
      | e _ => cases ho
theorem after_of {ec : String → Addr} {σ : L2.St} {ρ : Env} {os : List D} (h : Args c F H ms ds vs ps) (S : St (bsOf c ec F H ms vs) F' σ H' ρ) (ho : outsOf ρ (ioIx ms 0) = some os) : After c F H F' H' ps os where
  f := S.low
  ex := S.ex
  keep := fun q o h1 h2 h4 => S.keep q o h1 (fun i h3 => h2 (ioAt_mem h h3).1) h4
  new := S.new
  dom := S.dom
  os := outs_ok h S 0 h (fun i => by rw [Nat.zero_add]) ho
  tab := S.tab
/-- the body's end as the def's -/
theorem end_of {ec : String → Addr} {n : Nat} {Q : VK} {E : XK} {b : Sv} (h : Args c F H ms ds vs ps) (q : FOk c ec F H ps Q E (toFn n ms b ds)) :
    SOk (bsOf c ec F H ms vs) (fun cls d _ H => E cls d H) F { nx := fun _ H' => Q .non H', rt := Q } (b (initE n ms ds)) := by
  unfold toFn at q
  cases e : b (initE n ms ds) with
  | nx ρ =>
    rw [e] at q
    cases e2 : outsOf ρ (ioIx ms 0) with
    | none => simp only [e2] at q; exact q.elim
    | some os => simp only [e2] at q; exact fun F' σ' H' x S => q F' H' .non (after_of h S e2) .non
  | rt r ρ =>
    rw [e] at q
    cases r with
    | v d =>
      cases e2 : outsOf ρ (ioIx ms 0) with
      | none => simp only [e2] at q; exact q.elim
      | some os => simp only [e2] at q; exact fun F' σ' H' v x S R => q F' H' v (after_of h S e2) R
    | f d =>
      cases e2 : outsOf ρ (ioIx ms 0) with
      | none => simp only [e2] at q; exact q.elim
      | some os =>
        simp only [e2] at q
        intro F' σ' H' v x S R
        obtain ⟨p, rfl, a1, a2, a3, _⟩ := R
        exact q F' H' p (after_of h S e2) a1 a2 a3
    | s i =>
      simp only at q
      cases e3 : ρ[i]? with
      | none => simp only [e3] at q; exact q.elim
      | some s =>
        cases s with
        | o d =>
          simp only [e3] at q
          cases e2 : outsOf ρ (ioIx ms 0) with
          | none => simp only [e2] at q; exact q.elim
          | some os =>
            simp only [e2] at q
            intro F' σ' H' v x S R
            have R : σ'[i]? = some (some v) := R
            obtain ⟨p, e4, a1, a2, a3⟩ := S.sl i _ _ e3 R
            cases e4
            exact q F' H' p (after_of h S e2) a1 a2 a3
        | u => simp only [e3] at q; exact q.elim
        | v _ => simp only [e3] at q; exact q.elim
        | b _ => simp only [e3] at q; exact q.elim
        | e _ => simp only [e3] at q; exact q.elim
  | bk ρ => rw [e] at q; exact q.elim
  | ct ρ => rw [e] at q; exact q.elim
  | ex n ρ =>
    rw [e] at q
    cases e2 : outsOf ρ (ioIx ms 0) with
    | none => simp only [e2] at q; exact q.elim
    | some os => simp only [e2] at q; exact fun F' σ' H' x S => q F' H' (after_of h S e2)
  | bad => rw [e] at q; exact q.elim
end
section
variable {c : Ct} {ec : String → Addr} {P : Program} {w : World} {K : Frag} {mg : Str → Option Value} {base : Heap} {k : Nat} {f : Addr} {name qual : Str} {params : Arguments} {body : List Stmt} {scope : Scope} {dV kV doc pm cdv ct oc : Value} {an od : Option Addr}
    {osl : Array (Option Value)} {N ps : List Str} {ms : List Bool} {b : Sv}
/-- a def by its body's derivation -/
theorem fnD (lk : K.lookup f = some ⟨oc, od, .func (PySem.W.fnOf name qual params body scope dV kV doc pm an cdv ct), osl⟩) (hcd : PySem.W.codeIn K cdv qual = true) (S : FnScope N ps scope) (hm : ms.length = ps.length) (hN : ps.length ≤ N.length)
    (hb : ∀ (A : Around) (outer : List PySem.Env) (s : Shared) (H : Hp) (E : XK) (B : Bs), Room k (A.deeper (envOfC qual scope s.heap.objs.size f cdv)) → B.c = c → B.ec = ec →
      PSsD (cxOf (L2N.CX P w) P w K mg base N qual scope f cdv A outer s H E) B (fun cls d _ H => E cls d H) body b) :
    FnOk P w K mg base (L2N.CX P w) (k + 1) f (PySem.W.fnOf name qual params body scope dV kV doc pm an cdv ct) ps (spD c ec ms (toFn N.length ms b)) :=
  fn_of lk hcd S (fun vs H Q E ⟨F, ds, qs, e, _, h, _⟩ => by rw [h.len, hm]) fun A outer s H vs Q E hr ⟨F, ds, qs, e, tk, h, q⟩ =>
    ⟨_, hb A outer s H E (bsOf c ec F H ms vs) hr rfl rfl, F, initE N.length ms ds, st_init e tk h (by rw [hm]; exact hN), end_of h q⟩
/-- another function that says no more -/
theorem FnOk.fnEq {fd : FuncData} {g g' : Fn} (F : FnOk P w K mg base (L2N.CX P w) k f fd ps (spD c ec ms g)) (h : ∀ ds, g' ds ≠ .bad → g ds = g' ds) : FnOk P w K mg base (L2N.CX P w) k f fd ps (spD c ec ms g') :=
  F.imp fun vs H Q E ⟨F, ds, qs, e, tk, a, q⟩ => ⟨F, ds, qs, e, tk, a, by
    rw [h ds (fun z => by rw [z] at q; exact q)]
    exact q⟩
end
end Pd
end
section
set_option Elab.async false
set_option linter.all false
set_option maxRecDepth 100000
set_option maxHeartbeats 4000000
namespace Pd
open PySem L2 PyProof.Rows

/-! ### calls of the text's own defs -/
def scal : D → Bool
  | .none => true
  | .bool _ => true
  | .int _ => true
  | .str _ => true
  | _ => false
/-- every argument by value -/
def endCall (ρ1 : Env) (rs : List Res) : FOut → Out
  | .ret d _ => if scal d then .ok (.v d) ρ1 else match frzs ρ1 rs with
    | some (_, ρ2) => .ok (.v d) ρ2
    | none => .bad
  | .own d _ => match frzs ρ1 rs with
    | some (_, ρ2) => .ok (.f d) ρ2
    | none => .bad
  | .ex c _ => .ex c ρ1
  | .bad => .bad
def eCall (n : Nat) (f : Fn) (t : EvA) : Ev := fun ρ => (t ρ).bdE fun rs ρ1 => match looks ρ1 rs with
  | some ds => if ds.length = n then endCall ρ1 rs (f ds) else .bad
  | none => .bad
/-- the arguments are passed: their data, the slots that are changed -/
def pass (ρ : Env) : List Bool → List Res → Option (List D × List Nat × Env)
  | [], [] => some ([], [], ρ)
  | false :: ms, r :: rs => match frzR ρ r with
    | some (d, ρ1) => match pass ρ1 ms rs with
      | some (ds, is, ρ2) => some (d :: ds, is, ρ2)
      | none => none
    | none => none
  | true :: ms, .s i :: rs => match pass ρ ms rs with
    | some (ds, is, ρ2) => if i ∈ is then none else match mineAt ρ2 i with
      | some (_, d) => some (d :: ds, i :: is, ρ2)
      | none => none
    | none => none
  | _, _ => none
def updS (ρ : Env) : List Nat → List D → Env
  | i :: is, d :: ds => updS (match ρ[i]? with
    | some s => ρ.set i (s.with d)
    | none => ρ) is ds
  | _, _ => ρ
def eCallM (ms : List Bool) (f : Fn) (t : EvA) : Ev := fun ρ => (t ρ).bdE fun rs ρ1 => match pass ρ1 ms rs with
  | some (ds, is, ρ2) => match f ds with
    | .ret d os => .ok (.v d) (updS ρ2 is os)
    | .own d os => .ok (.f d) (updS ρ2 is os)
    | .ex c os => .ex c (updS ρ2 is os)
    | .bad => .bad
  | none => .bad
section
variable {B : Bs} {W : WX} {F F' H H' : Hp} {σ : L2.St} {ρ : Env}
theorem outs_len {c : Ct} {ps : List Addr} {os : List D} (h : Outs c F H ps os) : ps.length = os.length := by
  induction h with
  | nil => rfl
  | cons _ _ ih => rw [List.length_cons, List.length_cons, ih]
theorem outs_get {c : Ct} {ps : List Addr} {os : List D} (h : Outs c F H ps os) : ∀ {k : Nat} {p : Addr} {d : D}, ps[k]? = some p → os[k]? = some d → Own c F H p d := by
  induction h with
  | nil => intro k p d h; simp at h
  | cons a _ ih =>
    intro k p d h1 h2
    cases k with
    | zero => simp at h1 h2; subst h1 h2; exact a
    | succ k => exact ih (by simpa using h1) (by simpa using h2)
/-- the passed slots and their objects -/
inductive AtSl (σ : L2.St) (ρ : Env) : List Nat → List Addr → Prop
  | nil : AtSl σ ρ [] []
  | cons {i : Nat} {p : Addr} {is : List Nat} {ps : List Addr} {s : Sl} : σ[i]? = some (some (.ref p)) → ρ[i]? = some s → s.mine ≠ none → i ∉ is → AtSl σ ρ is ps → AtSl σ ρ (i :: is) (p :: ps)
theorem AtSl.get {is : List Nat} {ps : List Addr} (h : AtSl σ ρ is ps) : ∀ {k : Nat} {i : Nat}, is[k]? = some i → ∃ p s, ps[k]? = some p ∧ σ[i]? = some (some (.ref p)) ∧ ρ[i]? = some s ∧ s.mine ≠ none := by
  induction h with
  | nil => intro k i h; simp at h
  | cons a b c _ _ ih =>
    intro k i h
    cases k with
    | zero => simp at h; subst h; exact ⟨_, _, rfl, a, b, c⟩
    | succ k => simpa using ih (by simpa using h)
theorem AtSl.mem {is : List Nat} {ps : List Addr} (h : AtSl σ ρ is ps) : ∀ p ∈ ps, ∃ i s, i ∈ is ∧ σ[i]? = some (some (.ref p)) ∧ ρ[i]? = some s ∧ s.mine ≠ none := by
  induction h with
  | nil => intro p hp; cases hp
  | cons a b c _ _ ih =>
    intro p hp
    rcases List.mem_cons.mp hp with rfl | hp
    · exact ⟨_, _, List.mem_cons_self .., a, b, c⟩
    · obtain ⟨i, s, e1, e2⟩ := ih p hp
      exact ⟨i, s, List.mem_cons_of_mem _ e1, e2⟩
theorem updS_len : ∀ {is : List Nat} {os : List D} {ρ : Env}, (updS ρ is os).length = ρ.length
  | [], _, ρ => by simp [updS]
  | _ :: _, [], ρ => by simp [updS]
  | i :: is, d :: ds, ρ => by
    rw [updS, updS_len]
    split
    · rw [List.length_set]
    · rfl
theorem updS_at : ∀ {is : List Nat} {os : List D} {ρ : Env}, is.Nodup → ∀ {j : Nat} {t : Sl}, (updS ρ is os)[j]? = some t → ∃ s, ρ[j]? = some s ∧ ((t = s ∧ (j ∈ is → is.length ≠ os.length)) ∨ ∃ (k : Nat) (d : D), is[k]? = some j ∧ os[k]? = some d ∧ t = s.with d)
  | [], _, ρ, _, j, t, h => by
    have h : ρ[j]? = some t := by simpa [updS] using h
    exact ⟨t, h, .inl ⟨rfl, by simp⟩⟩
  | _ :: _, [], ρ, _, j, t, h => by
    have h : ρ[j]? = some t := by simpa [updS] using h
    exact ⟨t, h, .inl ⟨rfl, by simp⟩⟩
  | i :: is, d :: ds, ρ, nd, j, t, h => by
    rw [updS] at h
    have nd' := List.nodup_cons.mp nd
    obtain ⟨s', e1, e2⟩ := updS_at nd'.2 h
    by_cases ij : i = j
    · subst ij
      cases e3 : ρ[i]? with
      | none => rw [e3] at e1; simp only at e1; rw [e3] at e1; cases e1
      | some s =>
        rw [e3] at e1
        simp only at e1
        rw [List.getElem?_set_self (get_lt e3)] at e1
        cases e1
        refine ⟨s, rfl, .inr ⟨0, d, rfl, rfl, ?_⟩⟩
        rcases e2 with ⟨e2, _⟩ | ⟨k, d', h1, _⟩
        · exact e2
        · exact absurd (List.mem_of_getElem? h1) nd'.1
    · have e1' : ρ[j]? = some s' := by
        cases e3 : ρ[i]? with
        | none => rw [e3] at e1; exact e1
        | some s => rw [e3] at e1; simp only at e1; rw [List.getElem?_set_ne ij] at e1; exact e1
      refine ⟨s', e1', ?_⟩
      rcases e2 with ⟨e2, e4⟩ | ⟨k, d', h1, h2, h3⟩
      · refine .inl ⟨e2, fun hj => ?_⟩
        rcases List.mem_cons.mp hj with z | z
        · exact absurd z.symm ij
        · have := e4 z
          simp only [List.length_cons]
          omega
      · exact .inr ⟨k + 1, d', by simpa using h1, by simpa using h2, h3⟩
theorem with_mine {s : Sl} {d : D} (h : s.mine ≠ none) : (s.with d).mine = some d := by
  cases s with
  | u => exact absurd rfl h
  | v _ => exact absurd rfl h
  | e _ => exact absurd rfl h
  | o _ => rfl
  | b _ => rfl
theorem AtSl.nodup {is : List Nat} {ps : List Addr} (h : AtSl σ ρ is ps) : is.Nodup := by
  induction h with
  | nil => exact List.nodup_nil
  | cons _ _ _ n _ ih => exact List.nodup_cons.mpr ⟨n, ih⟩
theorem AtSl.len {is : List Nat} {ps : List Addr} (h : AtSl σ ρ is ps) : is.length = ps.length := by
  induction h with
  | nil => rfl
  | cons _ _ _ _ _ ih => rw [List.length_cons, List.length_cons, ih]
/-- behind a call -/
theorem St.after {is : List Nat} {ps : List Addr} {os : List D} (S : St B F σ H ρ) (at_ : AtSl σ ρ is ps) (A : After B.c F H F' H' ps os) : St B F' σ H' (updS ρ is os) := by
  have nd := at_.nodup
  have hl : is.length = os.length := by rw [at_.len, outs_len A.os]
  have back : ∀ (j : Nat) (t : Sl), (updS ρ is os)[j]? = some t → ∃ s, ρ[j]? = some s ∧ ((t = s ∧ j ∉ is) ∨ ∃ (k : Nat) (d : D) (p : Addr), is[k]? = some j ∧ os[k]? = some d ∧ t = s.with d ∧ ps[k]? = some p ∧ σ[j]? = some (some (.ref p)) ∧ s.mine ≠ none) := fun j t h => by
    obtain ⟨s, e1, e2⟩ := updS_at nd h
    refine ⟨s, e1, ?_⟩
    rcases e2 with ⟨e2, e3⟩ | ⟨k, d, h1, h2, h3⟩
    · exact .inl ⟨e2, fun z => e3 z hl⟩
    · obtain ⟨p, s', q1, q2, q3, q4⟩ := at_.get h1
      rw [e1] at q3
      cases q3
      exact .inr ⟨k, d, p, h1, h2, h3, q1, q2, q4⟩
  have backm : ∀ (j : Nat) (t : Sl), (updS ρ is os)[j]? = some t → t.mine ≠ none → ∃ s, ρ[j]? = some s ∧ s.mine ≠ none := fun j t h hm => by
    obtain ⟨s, e1, e2⟩ := back j t h
    rcases e2 with ⟨e2, _⟩ | ⟨k, d, p, _, _, _, _, _, e3⟩
    · exact ⟨s, e1, by rw [← e2]; exact hm⟩
    · exact ⟨s, e1, e3⟩
  have apart : ∀ (j : Nat) (s : Sl) (p : Addr), ρ[j]? = some s → s.mine ≠ none → σ[j]? = some (some (.ref p)) → j ∉ is → p ∉ ps := fun j s p h1 h2 h3 h4 h5 => by
    obtain ⟨i, s', m1, m2, m3, m4⟩ := at_.mem p h5
    have := S.sep j i s s' p h1 m3 h2 m4 h3 m2
    subst this
    exact h4 m1
  have there : ∀ (p : Addr) (d : D), Own B.c F H p d → ∃ o, H p = some o := fun p d h => by
    cases e : H p with
    | none => exact absurd e h.there
    | some o => exact ⟨o, rfl⟩
  refine ⟨by rw [updS_len]; exact S.len, A.ex, fun j t x h1 h2 => ?_, fun i j s t p h1 h2 h3 h4 h5 h6 => ?_, fun q o h1 h2 h9 => ?_, S.low.trans A.f, fun q h1 h2 => A.new q (S.dom q h1) (S.new q h1 h2), fun q h => A.dom q (S.dom q h), S.iow, A.tab, S.tb0, fun q z => A.new q (S.tab.dom z) (S.tf q z)⟩
  · obtain ⟨s, e1, e2⟩ := back j t h1
    have q := S.sl j s x e1 h2
    rcases e2 with ⟨rfl, e3⟩ | ⟨k, d, p, e3, e4, rfl, e5, e6, e7⟩
    · cases t with
      | u => exact True.intro
      | v d => obtain ⟨v, a1, a2⟩ := q; exact ⟨v, a1, a2.ex A.f⟩
      | o d =>
        obtain ⟨p, rfl, a2, a3, a4⟩ := q
        obtain ⟨o, ho⟩ := there p d a4
        exact ⟨p, rfl, A.new p a4.there a2, a3, a4.ex A.f ((A.keep p o ho (apart j _ p e1 (by intro z; cases z) h2 e3) (a4.notbl S.tab)).trans ho.symm)⟩
      | b d =>
        obtain ⟨p, rfl, a2, a3, a4⟩ := q
        obtain ⟨o, ho⟩ := there p d a4
        exact ⟨p, rfl, A.new p a4.there a2, a3, a4.ex A.f ((A.keep p o ho (apart j _ p e1 (by intro z; cases z) h2 e3) (a4.notbl S.tab)).trans ho.symm)⟩
      | e n => exact q
    · rw [e6] at h2
      cases h2
      have own := outs_get A.os e5 e4
      cases s with
      | u => exact absurd rfl e7
      | v _ => exact absurd rfl e7
      | e _ => exact absurd rfl e7
      | o d' =>
        obtain ⟨p', z, a2, a3, a4⟩ := q
        cases z
        exact ⟨p, rfl, A.new p a4.there a2, a3, own⟩
      | b d' =>
        obtain ⟨p', z, a2, a3, a4⟩ := q
        cases z
        exact ⟨p, rfl, A.new p a4.there a2, a3, own⟩
  · obtain ⟨s', a1, a2⟩ := backm i s h1 h3
    obtain ⟨t', b1, b2⟩ := backm j t h2 h4
    exact S.sep i j s' t' p a1 b1 a2 b2 h5 h6
  · refine A.keep q o (S.keep q o h1 h2 h9) (fun hq => ?_) h9
    obtain ⟨i, s, m1, m2, m3, m4⟩ := at_.mem q hq
    have r := S.sl i s _ m3 m2
    cases s with
    | u => exact m4 rfl
    | v _ => exact m4 rfl
    | e _ => exact m4 rfl
    | o d => obtain ⟨p, z, _, a3, _⟩ := r; cases z; rw [a3] at h1; cases h1
    | b d => obtain ⟨p, z, _, a3, _⟩ := r; cases z; exact h2 i a3
theorem pass_ok : ∀ {ms : List Bool} {rs : List Res} {xs : List V} {ds : List D} {is : List Nat} {F : Hp} {ρ ρ' : Env}, St B F σ H ρ → RessOk B F σ H ρ rs xs → pass ρ ms rs = some (ds, is, ρ') → ∃ F' ps, Ex F F' ∧ St B F' σ H ρ' ∧ Args B.c F' H ms ds xs ps ∧ AtSl σ ρ' is ps
  | [], [], _, _, _, F, ρ, ρ', S, .nil, h => by
    cases h
    exact ⟨F, [], Ex.refl F, S, .nil, .nil⟩
  | [], _ :: _, _, _, _, F, ρ, ρ', S, R, h => by simp [pass] at h
  | false :: ms, [], _, _, _, F, ρ, ρ', S, R, h => by simp [pass] at h
  | true :: ms, [], _, _, _, F, ρ, ρ', S, R, h => by simp [pass] at h
  | true :: ms, .v _ :: _, _, _, _, F, ρ, ρ', S, R, h => by simp [pass] at h
  | true :: ms, .f _ :: _, _, _, _, F, ρ, ρ', S, R, h => by simp [pass] at h
  | false :: ms, r :: rs, _, ds, is, F, ρ, ρ', S, .cons n R1 R2, h => by
    simp only [pass] at h
    cases e1 : frzR ρ r with
    | none => rw [e1] at h; cases h
    | some w =>
      obtain ⟨d, ρ1⟩ := w
      rw [e1] at h
      simp only at h
      cases e2 : pass ρ1 ms rs with
      | none => rw [e2] at h; cases h
      | some w =>
        obtain ⟨ds', is', ρ2⟩ := w
        rw [e2] at h
        cases h
        obtain ⟨F1, x1, S1, q1⟩ := frzR_ok S R1 e1
        obtain ⟨F2, ps, x2, S2, a2, t2⟩ := pass_ok S1 (R2.move x1) e2
        exact ⟨F2, ps, x1.trans x2, S2, .val (q1.ex x2) a2, t2⟩
  | true :: ms, .s i :: rs, _, ds, is, F, ρ, ρ', S, .cons (x := x) n R1 R2, h => by
    simp only [pass] at h
    cases e2 : pass ρ ms rs with
    | none => rw [e2] at h; cases h
    | some w =>
      obtain ⟨ds', is', ρ2⟩ := w
      rw [e2] at h
      simp only at h
      split at h
      · cases h
      · rename_i hi
        cases e3 : mineAt ρ2 i with
        | none => rw [e3] at h; cases h
        | some w =>
          obtain ⟨s, d⟩ := w
          rw [e3] at h
          cases h
          obtain ⟨F2, ps, x2, S2, a2, t2⟩ := pass_ok S R2 e2
          obtain ⟨p, hσ, hF, ho⟩ := mine_at S2 e3
          have R1 : σ[i]? = some (some x) := R1
          rw [hσ] at R1
          cases R1
          obtain ⟨m1, m2⟩ := mineAt_eq e3
          have mm : s.mine ≠ none := by rw [m2]; exact Option.some_ne_none _
          refine ⟨F2, p :: ps, x2, S2, .io hF ho (fun hp => ?_) a2, .cons hσ m1 mm hi t2⟩
          obtain ⟨j, s', j1, j2, j3, j4⟩ := t2.mem p hp
          have := S2.sep i j s s' p m1 j3 mm j4 hσ j2
          subst this
          exact hi j1
/-- own objects lent to be read -/
theorem lend_ok (S : St B F σ H ρ) : ∀ {rs : List Res} {xs : List V} {ds : List D} {F0 : Hp}, Ex F F0 → Ex F0 H → TfOk B.c F0 → (∀ q, F q = none → F0 q = none ∨ F0 q = H q) → RessOk B F σ H ρ rs xs → looks ρ rs = some ds → ∃ F1, Ex F0 F1 ∧ Ex F1 H ∧ TfOk B.c F1 ∧ Reps B.c F1 ds xs
  | [], _, _, F0, e0, e, tf, hq, .nil, hl => by cases hl; exact ⟨F0, Ex.refl F0, e, tf, .nil⟩
  | r :: rs, x :: xs, _, F0, e0, e, tf, hq, .cons n R1 R2, hl => by
    simp only [looks] at hl
    cases e1 : look ρ r with
    | none => simp only [e1] at hl; cases hl
    | some d =>
      cases e2 : looks ρ rs with
      | none => simp only [e1, e2] at hl; cases hl
      | some ds =>
        simp only [e1, e2] at hl
        cases hl
        have own : ∀ p, F p = none → Own B.c F H p d → x = .ref p → ∃ F1, Ex F0 F1 ∧ Ex F1 H ∧ TfOk B.c F1 ∧ Rep B.c F1 d x ∧ ∀ q, F q = none → F1 q = none ∨ F1 q = H q := fun p hF o hx => by
          subst hx
          cases hp : F0 p with
          | none =>
            obtain ⟨ob, ho, r⟩ := (o.ex e0 rfl).froze hp
            refine ⟨upd F0 p ob, Ex.new hp, e.take ho, fun q z => ?_, r, fun q h => ?_⟩
            · rw [upd_ne (fun y => by rw [y] at z; exact o.notbl S.tab z)]; exact tf q z
            by_cases z : q = p
            · subst z; exact .inr (by rw [upd_same]; exact ho.symm)
            · rw [upd_ne z]; exact hq q h
          | some ob =>
            have same : F0 p = H p := by
              rcases hq p hF with z | z
              · rw [hp] at z; cases z
              · exact z
            refine ⟨F0, Ex.refl F0, e, tf, ?_, hq⟩
            cases o with
            | lst h r => exact .lst (same.trans h) (r.ex e0)
            | dK h r => exact .dK (.inl (same.trans h)) (r.ex e0)
            | dT h r => exact .dT (.inl (same.trans h)) (r.ex e0)
        have rep : Rep B.c F d x → ∃ F1, Ex F0 F1 ∧ Ex F1 H ∧ TfOk B.c F1 ∧ Rep B.c F1 d x ∧ ∀ q, F q = none → F1 q = none ∨ F1 q = H q := fun r => ⟨F0, Ex.refl F0, e, tf, r.ex e0, hq⟩
        have step : ∃ F1, Ex F0 F1 ∧ Ex F1 H ∧ TfOk B.c F1 ∧ Rep B.c F1 d x ∧ ∀ q, F q = none → F1 q = none ∨ F1 q = H q := by
          cases r with
          | v d' => cases e1; exact rep R1
          | f d' => exact absurd rfl (n d')
          | s i =>
            have R1 : σ[i]? = some (some x) := R1
            simp only [look] at e1
            cases e3 : ρ[i]? with
            | none => rw [e3] at e1; cases e1
            | some s =>
              have w := S.sl i s _ e3 R1
              rw [e3] at e1
              cases s with
              | u => cases e1
              | e _ => cases e1
              | v d' => cases e1; obtain ⟨v, z, r⟩ := w; cases z; exact rep r
              | o d' => cases e1; obtain ⟨p, z, r, _, o⟩ := w; cases z; exact own p r o rfl
              | b d' => cases e1; obtain ⟨p, z, r, _, o⟩ := w; cases z; exact own p r o rfl
        obtain ⟨F1, a1, a2, a5, a3, a4⟩ := step
        obtain ⟨F2, b1, b2, b5, b3⟩ := lend_ok S (e0.trans a1) a2 a5 a4 R2 e2
        exact ⟨F2, a1.trans b1, b2, b5, .cons (a3.ex b1) b3⟩
theorem scal_rep {c : Ct} {d : D} {v : V} (hs : scal d = true) (h : Rep c F d v) : Rep c F' d v := by
  cases h with
  | non => exact .non
  | bl b => exact .bl b
  | int i => exact .int i
  | str s => exact .str s
  | lst _ _ => simp [scal] at hs
  | tup _ _ => simp [scal] at hs
  | dK _ _ => simp [scal] at hs
  | dT _ _ => simp [scal] at hs
  | scr _ _ => simp [scal] at hs
theorem args_val {c : Ct} {ds : List D} {xs : List V} (r : Reps c F ds xs) {ms : List Bool} (hm : ms = List.replicate ds.length false) : Args c F H ms ds xs [] := by
  subst hm
  have go : ∀ {ds : List D} {xs : List V}, Reps c F ds xs → Args c F H (List.replicate ds.length false) ds xs [] := by
    intro ds
    induction ds with
    | nil => intro xs r; cases r; exact .nil
    | cons d ds ih =>
      intro xs r
      cases r with
      | cons h t => exact .val h (ih t)
  exact go r
end
section
variable {X : Cx} {B : Bs} {W : WX} {x : Expr} {xs : List Expr} {a b d : Ev} {pos p : Pos} {t : EvA} {F H : Hp} {σ : L2.St} {ρ : Env} {Q : VK}
theorem frz_look {ρ ρ1 : Env} {r : Res} {d : D} (h : frzR ρ r = some (d, ρ1)) : look ρ r = some d ∧ ∀ r', look ρ1 r' = look ρ r' := by
  cases r with
  | v d' => cases h; exact ⟨rfl, fun _ => rfl⟩
  | f d' => cases h; exact ⟨rfl, fun _ => rfl⟩
  | s i =>
    simp only [frzR] at h
    cases e : ρ[i]? with
    | none => rw [e] at h; cases h
    | some s =>
      rw [e] at h
      cases s with
      | u => cases h
      | e _ => cases h
      | b _ => cases h
      | v d' => cases h; exact ⟨by simp only [look, e], fun _ => rfl⟩
      | o d' =>
        cases h
        refine ⟨by simp only [look, e], fun r' => ?_⟩
        cases r' with
        | v _ => rfl
        | f _ => rfl
        | s j =>
          simp only [look]
          by_cases ij : i = j
          · subst ij
            rw [List.getElem?_set_self (get_lt e), e]
          · rw [List.getElem?_set_ne ij]
theorem looks_eq {ρ ρ1 : Env} (h : ∀ r', look ρ1 r' = look ρ r') : ∀ rs, looks ρ1 rs = looks ρ rs
  | [] => rfl
  | r :: rs => by rw [looks, looks, h, looks_eq h]
theorem frz_looks : ∀ {rs : List Res} {ds es : List D} {ρ ρ' : Env}, looks ρ rs = some ds → frzs ρ rs = some (es, ρ') → es = ds
  | [], _, _, ρ, ρ', h1, h2 => by cases h1; cases h2; rfl
  | r :: rs, ds, es, ρ, ρ', h1, h2 => by
    simp only [frzs] at h2
    cases e1 : frzR ρ r with
    | none => rw [e1] at h2; cases h2
    | some w =>
      obtain ⟨d, ρ1⟩ := w
      rw [e1] at h2
      simp only at h2
      cases e2 : frzs ρ1 rs with
      | none => rw [e2] at h2; cases h2
      | some w =>
        obtain ⟨ds', ρ2⟩ := w
        rw [e2] at h2
        cases h2
        obtain ⟨a, b⟩ := frz_look e1
        simp only [looks, a] at h1
        cases e3 : looks ρ rs with
        | none => rw [e3] at h1; cases h1
        | some ds3 =>
          rw [e3] at h1
          cases h1
          rw [frz_looks (by rw [looks_eq b]; exact e3) e2]
/-- behind a call that changed no parameter: no more is known than ahead -/
theorem St.calm {F1 F' H' : Hp} (S : St B F σ H ρ) (e : Ex F F1) (A : After B.c F1 H F' H' [] []) : St B F σ H' ρ := by
  exact S.growT (Ex.refl F) (fun q o h t => A.keep q o h (by simp) t) ((e.trans A.f).trans A.ex) (fun _ _ h => h) A.dom A.tab
theorem St.aft0 {F' H' : Hp} (S : St B F σ H ρ) (A : After B.c F H F' H' [] []) : St B F' σ H' ρ :=
  S.growT A.f (fun q o h t => A.keep q o h (by simp) t) A.ex A.new A.dom A.tab
theorem outs_nil {c : Ct} {F H F' H' : Hp} {os : List D} (A : After c F H F' H' [] os) : os = [] := by
  have := A.os
  cases this
  rfl
theorem call_ok {f : Fn} {n : Nat} (h : tE B W (eCall n f t) σ H Q) : tCallSD (spD B.c B.ec (List.replicate n false) f) [] (WE W) (tA B W t) σ H Q := by
  obtain ⟨F, ρ, S, h⟩ := h
  refine abd_ok S h fun rs ρ1 F1 H1 xs e1 S1 R1 h1 => ?_
  rw [List.append_nil]
  cases hl : looks ρ1 rs with
  | none => simp only [hl] at h1; exact h1.elim
  | some ds =>
    simp only [hl] at h1
    split at h1
    · rename_i hn
      subst hn
      have lent : (∀ F2, Ex F1 F2 → FOk B.c B.ec F2 H1 [] Q (WE W σ) (f ds)) → spD B.c B.ec (List.replicate ds.length false) f xs H1 Q (WE W σ) := fun k => by
        obtain ⟨F2, a1, a2, a5, a3⟩ := lend_ok S1 (Ex.refl F1) S1.ex S1.tf (fun q h => .inl h) R1 hl
        exact ⟨F2, ds, [], a2, ⟨S1.tab, a5⟩, args_val a3 rfl, k F2 a1⟩
      have froz : ∀ es ρ2, frzs ρ1 rs = some (es, ρ2) → (∀ F2, Ex F1 F2 → St B F2 σ H1 ρ2 → FOk B.c B.ec F2 H1 [] Q (WE W σ) (f ds)) → spD B.c B.ec (List.replicate ds.length false) f xs H1 Q (WE W σ) := fun es ρ2 e k => by
        obtain ⟨F2, x2, S2, q2⟩ := frzs_ok S1 R1 e
        have := frz_looks hl e
        subst this
        exact ⟨F2, es, [], S2.ex, ⟨S2.tab, S2.tf⟩, args_val q2 rfl, k F2 x2 S2⟩
      cases ef : f ds with
      | bad => rw [ef] at h1; exact h1.elim
      | ex c os =>
        rw [ef] at h1
        refine lent fun F2 x2 => ?_
        rw [ef]
        intro F' H' A
        have := outs_nil A
        subst this
        exact h1 F1 H' (Ex.refl _) (S1.calm x2 A)
      | ret d os =>
        rw [ef] at h1
        simp only [endCall] at h1
        split at h1
        · rename_i hs
          refine lent fun F2 x2 => ?_
          rw [ef]
          intro F' H' v A r
          have := outs_nil A
          subst this
          exact h1 F1 H' v (Ex.refl _) (S1.calm x2 A) (scal_rep hs r)
        · cases e2 : frzs ρ1 rs with
          | none => rw [e2] at h1; exact h1.elim
          | some w =>
            obtain ⟨es, ρ2⟩ := w
            rw [e2] at h1
            refine froz es ρ2 e2 fun F2 x2 S2 => ?_
            rw [ef]
            intro F' H' v A r
            have := outs_nil A
            subst this
            exact h1 F' H' v (x2.trans A.f) (S2.aft0 A) r
      | own d os =>
        rw [ef] at h1
        simp only [endCall] at h1
        cases e2 : frzs ρ1 rs with
        | none => rw [e2] at h1; exact h1.elim
        | some w =>
          obtain ⟨es, ρ2⟩ := w
          rw [e2] at h1
          refine froz es ρ2 e2 fun F2 x2 S2 => ?_
          rw [ef]
          intro F' H' p A hF hp ho
          have := outs_nil A
          subst this
          refine h1 F' H' _ (x2.trans A.f) (S2.aft0 A) ⟨p, rfl, hF, S2.fresh hp, ho, fun i s m1 m2 m3 => ?_⟩
          have q := S2.sl i s _ m1 m3
          cases e : s.mine with
          | none => exact m2 e
          | some d' =>
            obtain ⟨a, z1, _, z3⟩ := q.mine e
            cases z1
            exact z3.there hp
    · exact h1.elim
theorem callM_ok {f : Fn} {ms : List Bool} (h : tE B W (eCallM ms f t) σ H Q) : tCallSD (spD B.c B.ec ms f) [] (WE W) (tA B W t) σ H Q := by
  obtain ⟨F, ρ, S, h⟩ := h
  refine abd_ok S h fun rs ρ1 F1 H1 xs e1 S1 R1 h1 => ?_
  rw [List.append_nil]
  cases hl : pass ρ1 ms rs with
  | none => simp only [hl] at h1; exact h1.elim
  | some w =>
    obtain ⟨ds, is, ρ2⟩ := w
    simp only [hl] at h1
    obtain ⟨F2, ps, x2, S2, a2, t2⟩ := pass_ok S1 R1 hl
    refine ⟨F2, ds, ps, S2.ex, ⟨S2.tab, S2.tf⟩, a2, ?_⟩
    cases ef : f ds with
    | bad => rw [ef] at h1; exact h1.elim
    | ex c os =>
      rw [ef] at h1
      exact fun F' H' A => h1 F' H' (x2.trans A.f) (S2.after t2 A)
    | ret d os =>
      rw [ef] at h1
      exact fun F' H' v A r => h1 F' H' v (x2.trans A.f) (S2.after t2 A) r
    | own d os =>
      rw [ef] at h1
      intro F' H' p A hF hp ho
      refine h1 F' H' _ (x2.trans A.f) (S2.after t2 A) ⟨p, rfl, hF, S2.fresh hp, ho, fun i s m1 m2 m3 => ?_⟩
      have nd := t2.nodup
      obtain ⟨s', g1, g2⟩ := updS_at nd m1
      have mm : s'.mine ≠ none := by
        rcases g2 with ⟨g2, _⟩ | ⟨k, d', g3, g4, g5⟩
        · rw [← g2]; exact m2
        · obtain ⟨p', s'', q1, q2, q3, q4⟩ := t2.get g3
          rw [g1] at q3
          cases q3
          exact q4
      have q := S2.sl i s' _ g1 m3
      cases e : s'.mine with
      | none => exact mm e
      | some d' =>
        obtain ⟨a, z1, _, z3⟩ := q.mine e
        cases z1
        exact z3.there hp
theorem d_call {k n : Nat} {g : Addr} {fd : FuncData} {ps : List Str} {nm : Str} {f : Fn} (Fo : FnOk X.prog X.w X.K X.mg X.base (L2N.CX X.prog X.w) k g fd ps (spD B.c B.ec (List.replicate n false) f)) (hr : Room k X.A) (hg : Gl X nm) (hm : X.mg nm = some (.ref g)) (hk : PySem.W.keepIn X.K (.ref g) = true)
    (hb : Binds X.K fd ps []) (tk : L2N.Takes X W) (ha : PAD X B W (x :: xs) t) (hdb : (nm == ("__debug__" : Str)) = false := by decide) (he : starEach (x :: xs) X.env = (false, eval x X.env) :: starEach xs X.env := by rfl) (hpl : (backTo pos (starEach xs X.env)).any (·.1) = false := by rfl) :
    PED X B W (.Call (.Name nm p) (x :: xs) [] pos) (eCall n f t) :=
  pe_wk (pe_callSD Fo hr hg hm hk hb .nil (fun σ => L2N.passAt tk σ) ha hdb he hpl) fun σ H Q h => call_ok h
theorem d_callM {k : Nat} {ms : List Bool} {g : Addr} {fd : FuncData} {ps : List Str} {nm : Str} {f : Fn} (Fo : FnOk X.prog X.w X.K X.mg X.base (L2N.CX X.prog X.w) k g fd ps (spD B.c B.ec ms f)) (hr : Room k X.A) (hg : Gl X nm) (hm : X.mg nm = some (.ref g)) (hk : PySem.W.keepIn X.K (.ref g) = true)
    (hb : Binds X.K fd ps []) (tk : L2N.Takes X W) (ha : PAD X B W (x :: xs) t) (hdb : (nm == ("__debug__" : Str)) = false := by decide) (he : starEach (x :: xs) X.env = (false, eval x X.env) :: starEach xs X.env := by rfl) (hpl : (backTo pos (starEach xs X.env)).any (·.1) = false := by rfl) :
    PED X B W (.Call (.Name nm p) (x :: xs) [] pos) (eCallM ms f t) :=
  pe_wk (pe_callSD Fo hr hg hm hk hb .nil (fun σ => L2N.passAt tk σ) ha hdb he hpl) fun σ H Q h => callM_ok h
end
end Pd
end
section
set_option Elab.async false
set_option linter.all false
set_option maxRecDepth 100000
set_option maxHeartbeats 4000000
/-! a list, and a comprehension over it, where an exception is being handled -/
namespace HT2
open PySem PySem.Spec PyProof.Rows L2 L2H HotX
abbrev Sg := L2.St
section
variable {prog : Program} {w : World} {A : Around} {E : Value → Shared → Prop} {s : Shared}
/-- a list's iterator at its end, while x1 is handled -/
theorem lst_end {it l x1 : Addr} {i : Nat} {zs : Array Value} {Q : Option Value → Shared → Prop} (hot : HotAt A x1 s.heap) (ne : x1 ≠ it) (hi : s.heap.IsListIter it l i) (hl : s.heap.IsList l zs) (hx : zs[i]? = none)
    (hQ : ∀ h', Heap.ExtBut it s.heap h' → Q none { s with heap := h' }) : wpAny (model prog w) A (pyNext (.ref it)) Q E s := by
  obtain ⟨o, ho, hc, hd⟩ := id hi
  obtain ⟨ol, hol, _, nl, hdl⟩ := hl
  obtain ⟨hh, o1, vs1, h1, d1, c1⟩ := hot
  unfold pyNext
  refine wpAny_bind <| wpAny_attempt <| wpAny_callSpecial?_slot (name := Str.ofString "__next__") hi.typeIs slot_listiter_next <|
    wpAny_call_entry slot_listiter_next hi.typeIs entry_listiter_next ?_ (args_listiter_next _)
  show wpAny _ _ (field (.ref it) 0 >>= _) _ _ s
  refine wpAny_bind <| wpAny_field ho hd (x := .ref l) rfl ?_
  show wpAny _ _ (if (Value.ref l == Value.none) = true then _ else _) _ _ s
  rw [if_neg (show (Value.ref l == Value.none) ≠ true from Bool.false_ne_true)]
  show wpAny _ _ (field (.ref it) 1 >>= _) _ _ s
  refine wpAny_bind <| wpAny_field ho hd (x := .int i 0) rfl ?_
  show wpAny _ _ (seqItems? (.ref l) >>= _) _ _ s
  refine wpAny_bind <| wpAny_seqItems hol hdl ?_
  simp only [Int.toNat_natCast, hx]
  refine wpAny_bind <| wpAny_rule <| wpAny_bind <| wpAny_setField ho hd (by simp) ?_
  show wpAny _ _ (newExc (.type "StopIteration") [] >>= _) _ _ _
  refine wpAny_bind ?_
  simp only [newExc, newTuple]
  refine wpAny_bind <| wpAny_newObj_type ?_ (by size_fits)
  refine wpAny_bind (m := firstArgMember _ _) <| wpAny_of_eq (a := Value.none) (by first | rfl | (simp only [firstArgMember]; rfl)) ?_
  refine wpAny_newObj_type ?_ (by size_fits)
  have u1 : (s.heap.update it (Obj.mapFields (·.setIfInBounds 0 .none))).get? x1 = some o1 := (Heap.get?_update_other _ _ (Ne.symm ne)).trans h1
  have u2 := Heap.get?_push_of_some { cls := Value.type "tuple", data := Data.seq #[] } u1
  refine raiseNew_hot ⟨hh, o1, vs1, Heap.get?_push_of_some _ u2, d1, c1⟩ (Nat.ne_of_lt <| Heap.lt_size u2) (Heap.get?_push_size _ rfl) rfl ?_ ?_
  · first
    | (simp; done)
    | (simp; omega)
    | (simp only [Array.size_append]; simp; omega)
  refine wpAny_bind <| wpAny_isInstance (T := "StopIteration") (b := true) ⟨_, Heap.get?_update_self _ (Heap.get?_push_size _ rfl) rfl, rfl⟩ isSubtype_stop ?_
  refine wpAny_pure (hQ _ ?_)
  intro b o hb e
  have e1 : (s.heap.update it (Obj.mapFields (·.setIfInBounds 0 .none))).get? b = some o := (Heap.get?_update_other _ _ (Ne.symm hb)).trans e
  have e2 := Heap.get?_push_of_some { cls := Value.type "tuple", data := Data.seq #[] } e1
  rw [Heap.get?_update_other _ _ (Nat.ne_of_gt <| Heap.lt_size e2)]
  exact Heap.get?_push_of_some _ e2
/-- a tuple's iterator at its end, while x1 is handled -/
theorem tup_end {it l x1 : Addr} {i : Nat} {zs : Array Value} {Q : Option Value → Shared → Prop} (hot : HotAt A x1 s.heap) (ne : x1 ≠ it) (hi : IsTupIter s.heap it l i) (hl : IsTup s.heap l zs) (hx : zs[i]? = none)
    (hQ : ∀ h', Heap.ExtBut it s.heap h' → Q none { s with heap := h' }) : wpAny (model prog w) A (pyNext (.ref it)) Q E s := by
  obtain ⟨o, ho, hc, hd⟩ := id hi
  obtain ⟨ol, hol, _, nl, hdl⟩ := hl
  obtain ⟨hh, o1, vs1, h1, d1, c1⟩ := hot
  unfold pyNext
  refine wpAny_bind <| wpAny_attempt <| wpAny_callSpecial?_slot (name := Str.ofString "__next__") hi.typeIs slot_tupleiter_next <|
    wpAny_call_entry slot_tupleiter_next hi.typeIs entry_tupleiter_next ?_ (args_tupleiter_next _)
  show wpAny _ _ (field (.ref it) 0 >>= _) _ _ s
  refine wpAny_bind <| wpAny_field ho hd (x := .ref l) rfl ?_
  show wpAny _ _ (if (Value.ref l == Value.none) = true then _ else _) _ _ s
  rw [if_neg (show (Value.ref l == Value.none) ≠ true from Bool.false_ne_true)]
  show wpAny _ _ (field (.ref it) 1 >>= _) _ _ s
  refine wpAny_bind <| wpAny_field ho hd (x := .int i 0) rfl ?_
  show wpAny _ _ (seqItems? (.ref l) >>= _) _ _ s
  refine wpAny_bind <| wpAny_seqItems hol hdl ?_
  simp only [Int.toNat_natCast, hx]
  refine wpAny_bind <| wpAny_rule <| wpAny_bind <| wpAny_setField ho hd (by simp) ?_
  show wpAny _ _ (newExc (.type "StopIteration") [] >>= _) _ _ _
  refine wpAny_bind ?_
  simp only [newExc, newTuple]
  refine wpAny_bind <| wpAny_newObj_type ?_ (by size_fits)
  refine wpAny_bind (m := firstArgMember _ _) <| wpAny_of_eq (a := Value.none) (by first | rfl | (simp only [firstArgMember]; rfl)) ?_
  refine wpAny_newObj_type ?_ (by size_fits)
  have u1 : (s.heap.update it (Obj.mapFields (·.setIfInBounds 0 .none))).get? x1 = some o1 := (Heap.get?_update_other _ _ (Ne.symm ne)).trans h1
  have u2 := Heap.get?_push_of_some { cls := Value.type "tuple", data := Data.seq #[] } u1
  refine raiseNew_hot ⟨hh, o1, vs1, Heap.get?_push_of_some _ u2, d1, c1⟩ (Nat.ne_of_lt <| Heap.lt_size u2) (Heap.get?_push_size _ rfl) rfl ?_ ?_
  · first
    | (simp; done)
    | (simp; omega)
    | (simp only [Array.size_append]; simp; omega)
  refine wpAny_bind <| wpAny_isInstance (T := "StopIteration") (b := true) ⟨_, Heap.get?_update_self _ (Heap.get?_push_size _ rfl) rfl, rfl⟩ isSubtype_stop ?_
  refine wpAny_pure (hQ _ ?_)
  intro b o hb e
  have e1 : (s.heap.update it (Obj.mapFields (·.setIfInBounds 0 .none))).get? b = some o := (Heap.get?_update_other _ _ (Ne.symm hb)).trans e
  have e2 := Heap.get?_push_of_some { cls := Value.type "tuple", data := Data.seq #[] } e1
  rw [Heap.get?_update_other _ _ (Nat.ne_of_gt <| Heap.lt_size e2)]
  exact Heap.get?_push_of_some _ e2
/-- a, b = a tuple, while x1 is handled -/
theorem tup_parts {t x1 : Addr} {zs : Array Value} {Q : List Value → Shared → Prop} (hot : HotAt A x1 s.heap) (ht : IsTup s.heap t zs) (hQ : ∀ h', Heap.ExtBut s.heap.objs.size s.heap h' → Q zs.toList { s with heap := h' }) :
    wpAny (model prog w) A (unpackItems (.ref t) zs.size none) Q E s := by
  have tne : t ≠ s.heap.objs.size := by
    obtain ⟨o, ho, _⟩ := ht
    exact Nat.ne_of_lt (Heap.lt_size ho)
  obtain ⟨hh, o1, vs1, h1, d1, c1⟩ := hot
  have xne : x1 ≠ s.heap.objs.size := Nat.ne_of_lt (Heap.lt_size h1)
  unfold unpackItems
  refine wpAny_bind ?_
  unfold notIterableAtAll
  refine wpAny_bind <| wpAny_specialOf ht.typeIs slot_tuple_iter.lookup <| wpAny_pure ?_
  simp only [Bool.false_eq_true, if_false]
  refine wpAny_bind <| wpAny_holding <| iter_tuple ht ?_
  refine wpAny_bind <| wpAny_holding <| draw_tuple tne zs.size 0 _ _ ⟨_, Heap.get?_push_size _ rfl, rfl, rfl⟩ (ht.push _) (by omega) fun k1 i1 s1 => ?_
  have whole : List.take zs.size (List.drop 0 zs.toList) = zs.toList := by
    rw [List.drop_zero]
    exact List.take_of_length_le (by simp)
  rw [whole, if_neg (by simp)]
  have t1 : IsTup k1 t zs := (ht.push _).extBut s1.extBut tne
  refine wpAny_bind <| wpAny_holding <| tup_end (x1 := x1) ⟨hh, o1, vs1, s1.extBut _ _ xne (Heap.get?_push_of_some _ h1), d1, c1⟩ xne i1 t1 (by simp) fun k2 e2 => ?_
  simp only [Option.isSome_none, Bool.false_eq_true, if_false]
  exact wpAny_pure (hQ k2 fun b o hb e => e2 b o hb (s1.extBut b o hb (Heap.get?_push_of_some _ e)))
end
/-! ### what walks a list there -/
/-- p is handled -/
def HotP (X : Cx) (pins : List (Addr × Obj)) (p : Addr × Obj) : Prop := Hot1 X.A p ∧ p ∈ X.pn ++ pins
theorem HotP.more {X : Cx} {pins : List (Addr × Obj)} {p : Addr × Obj} (h : HotP X pins p) (qs : List (Addr × Obj)) : HotP X (pins ++ qs) p := ⟨h.1, by rw [← List.append_assoc]; exact List.mem_append_left _ h.2⟩
structure TurnQ (p : Addr × Obj) (P : Program) (w : World) (K : PySem.W.Frag) (tg : Expr) (J : It) (fp : List Addr) (it : Addr) (tn : Nat → Heap → Prop) : Prop where
  obj : ∀ i h, tn i h → ∀ b ∈ fp, ∃ o, h.get? b = some o ∧ ∀ v, o.data ≠ .cell v
  keep : ∀ i h h', tn i h → (∀ b ∈ fp, ∀ o, h.get? b = some o → h'.get? b = some o) → tn i h'
  item : ∀ (X : Cx), X.prog = P → X.w = w → X.K = K → ∀ (i : Nat) (pins : List (Addr × Obj)) (s : Shared) (σ : Sg) (H : Hp) (E : Value → Shared → Prop), HotP X pins p → L2.Inv X pins σ H s → (∀ b ∈ fp, FpOk X pins H b) → tn i s.heap → J.go i H →
    wpAny (model P w) X.A (pyNext (.ref it)) (fun r s1 => ∃ u, r = some u ∧
      wpAny (model P w) X.A (letOwnedTupleGo tg (.ref it) u) (fun _ s2 => ∃ x H', L2.Inv X pins σ H' s2 ∧ RelV x u ∧ J.yld i H x H' ∧ tn (i + 1) s2.heap ∧ ∀ b ∈ fp, H' b = none) E s1) E s
  done : ∀ (X : Cx), X.prog = P → X.w = w → X.K = K → ∀ (i : Nat) (pins : List (Addr × Obj)) (s : Shared) (σ : Sg) (H : Hp) (E : Value → Shared → Prop), HotP X pins p → L2.Inv X pins σ H s → (∀ b ∈ fp, FpOk X pins H b) → tn i s.heap → J.stop i H →
    wpAny (model P w) X.A (pyNext (.ref it)) (fun r s1 => r = none ∧ L2.Inv X pins σ H s1) E s
  self : ∀ (A : Around) (i : Nat) (s : Shared) (Q : Value → Shared → Prop) (E : Value → Shared → Prop), tn i s.heap → Q (.ref it) s → wpAny (model P w) A (pyIter (.ref it)) Q E s
theorem turn_lst {p : Addr × Obj} {P : Program} {w : World} {K : PySem.W.Frag} {tg : Expr} (a it : Addr) : TurnQ p P w K tg (Itl K a) [it] it (fun i h => h.IsListIter it a i) where
  obj := fun i h st b hb => by
    rw [List.mem_singleton] at hb
    subst hb
    obtain ⟨o, e, _, d⟩ := st
    exact ⟨o, e, fun v z => by rw [d] at z; cases z⟩
  keep := fun i h h' st k => st.at fun o e => k it (List.mem_singleton.mpr rfl) o e
  item := by
    intro X hP hw hK i pins s σ H E _ I hf st hg
    subst hP hw hK
    obtain ⟨ys, y, hy, hi⟩ := hg
    obtain ⟨zs, rv, pl, _⟩ := I.list hy
    obtain ⟨u, hu, ru⟩ := rv.get hi
    obtain ⟨g0, g1, g2, g3, g4, g5⟩ := hf it (List.mem_singleton.mpr rfl)
    refine wpAny_pyNext_list_item st pl.isList (x := u) (by simpa using hu) fun h' st' sb => ?_
    have J : L2.Inv X pins σ H { s with heap := h' } := I.turned (t' := s.toks) (fun b o hb e => (sb.2 b hb).trans e) g0 g1 g3 g4 g5
    obtain ⟨o, e, c, d⟩ := id st'
    refine ⟨u, rfl, go_of (s := { s with heap := h' }) e c d (by decide) ?_⟩
    exact ⟨y, H, J, ru, ⟨rfl, fun ws hw => by rw [I.list_inj hw hy]; exact hi⟩, st', fun b hb => (hf b hb).1⟩
  done := by
    intro X hP hw hK i pins s σ H E hp I hf st hg
    subst hP hw hK
    obtain ⟨ys, hy, hi⟩ := hg
    obtain ⟨zs, rv, pl, _⟩ := I.list hy
    obtain ⟨g0, g1, g2, g3, g4, g5⟩ := hf it (List.mem_singleton.mpr rfl)
    have hl := rv.length
    obtain ⟨⟨hh, v1, e1, c1⟩, hm⟩ := hp
    refine lst_end (x1 := p.1) ⟨hh, p.2, v1, (I.pin p hm).1, e1, c1⟩ (g5 p hm) st pl.isList (by simp; omega) fun h' eb => ?_
    exact ⟨rfl, I.turned (t' := s.toks) (fun b o hb e => eb b o hb e) g0 g1 g3 g4 g5⟩
  self := fun _ _ _ _ _ st h => wpAny_pyIter_listiter st h
def PIEQ (p : Addr × Obj) (X : Cx) (pins : List (Addr × Obj)) (σ : Sg) (tg : Expr) (R : It → Hp → Prop) (v : Value) (s2 : Shared) : Prop :=
  ∃ (it : Addr) (fp : List Addr) (tn : Nat → Heap → Prop) (J : It) (H' : Hp), v = .ref it ∧ L2.Inv X pins σ H' s2 ∧ TurnQ p X.prog X.w X.K tg J fp it tn ∧ tn 0 s2.heap ∧ (∀ b ∈ fp, FpOk X pins H' b) ∧ R J H'
structure PIQ (p : Addr × Obj) (X : Cx) (tg iter : Expr) (wi : TI) : Prop where
  run : ∀ (pins : List (Addr × Obj)) (s : Shared) (σ : Sg) (H : Hp) (R : It → Hp → Prop), L2.Inv X pins σ H s → wi σ H R →
    wpAny (model X.prog X.w) X.A (eval iter X.env) (fun v s1 => wpAny (model X.prog X.w) X.A (pyIter v) (PIEQ p X pins σ tg R) X.xe s1) X.xe s
theorem pi_lst {p : Addr × Obj} {X : Cx} {tg l : Expr} {tl : TE} (hl : PE X l tl) : PIQ p X tg l (iList X.K tl) := by
  refine ⟨fun pins s σ H R I h => thn (hl.run pins s σ H _ I h) fun v s1 hv => ?_⟩
  obtain ⟨x, H1, I1, r1, a, rfl, ⟨ys, hy⟩, q⟩ := hv
  cases r1
  obtain ⟨zs, rv, pl, _⟩ := I1.list hy
  refine wpAny_pyIter_list pl.isList ?_
  refine ⟨s1.heap.objs.size, [s1.heap.objs.size], _, _, H1, rfl, I1.kept (t' := s1.toks) (fun b o e => Heap.get?_push_of_some _ e), turn_lst a _, ⟨_, Heap.get?_push_size _ rfl, rfl, rfl⟩, fun b hb => ?_, q⟩
  rw [List.mem_singleton] at hb
  subst hb
  exact I1.fpOk (Nat.le_refl _) (I1.hok.fresh (Nat.le_refl _))
theorem pg_tupQ {p : Addr × Obj} {X : Cx} {es : List Expr} {k n : Nat} {t : TGs} {pos : Pos} (hp : Hot1 X.A p) (hpm : p ∈ X.pn) (h : PGs X es t) (hn : (assignEach es X.env).length = n := by rfl) (hst : (assignEach es X.env).findIdx? (·.1) = none := by rfl) : PG X (.Tuple es k pos) (gTup X.K n t) := by
  refine ⟨fun pins s σ H v u Q I r hw => ?_⟩
  obtain ⟨a, xs, rfl, hq, hl, hw⟩ := hw
  cases r
  obtain ⟨its, rv, ht, _⟩ := I.tuple hq
  obtain ⟨hh, v1, e1, c1⟩ := hp
  have hot : HotAt X.A p.1 s.heap := ⟨hh, p.2, v1, (I.pin p (List.mem_append_left _ hpm)).1, e1, c1⟩
  have lenE : (assignEach es X.env).length = its.toArray.size := by rw [hn, ← hl, rv.length, List.size_toArray]
  rw [assign_Tuple]
  refine wpAny_bind (wpAny_standAt ?_)
  unfold unpack
  rw [lenE, hst]
  refine wpAny_bind <| wpAny_holding <| tup_parts hot ht fun h' hx => ?_
  have J : L2.Inv X pins σ H { s with heap := h' } := I.kept (t' := s.toks) fun b o e => hx b o (Nat.ne_of_lt (Heap.lt_size e)) e
  exact h.run pins _ σ H xs _ Q J (by simpa using rv) hw
/-- a comprehension's block there -/
abbrev blkQ (p : Addr × Obj) (X : Cx) (s : Shared) (H : Hp) (scope : Scope) (env : PySem.Env) (fp : List Addr) : Cx := (X.blk s H scope env fp).tr [p] fun _ _ => False
/-- a list comprehension over what PIQ walks -/
theorem lcQ {p : Addr × Obj} {X : Cx} {pins : List (Addr × Obj)} {s : Shared} {σ : Sg} {H : Hp} {Q : VK} {elt tg iter : Expr} {ifs : List Expr} {scope : Scope} {own : List (Str × Nat)} {pos pos' : Pos} {wi : TI} {g : TG} {tt : TT} {te : TE} {use : Option (Value → Sem Unit)} {Qf : Value → Shared → Prop}
    (hp : Hot1 X.A p) (hpm : p ∈ X.pn) (hN : X.N.Nodup) (I : L2.Inv X pins σ H s) (hi : PIQ p X tg iter wi) (ok : BlkOk X.N X.env.scope scope own)
    (hg : ∀ (s : Shared) (H : Hp) (C : Addr) (cl : List (Str × Addr)) (fp : List Addr), PG (blkQ p X s H scope (compEnvC scope cl C X.env) fp) tg g)
    (ht : ∀ (s : Shared) (H : Hp) (C : Addr) (cl : List (Str × Addr)) (fp : List Addr), PTs (blkQ p X s H scope (compEnvC scope cl C X.env) fp) ifs tt)
    (he : ∀ (s : Shared) (H : Hp) (C : Addr) (cl : List (Str × Addr)) (fp : List Addr), PE (blkQ p X s H scope (compEnvC scope cl C X.env) fp) elt te)
    (hs : ∀ x, foldedSetIterable iter X.env x = pure x) (h : tLc wi g tt te (own.map (·.2)) σ H Q)
    (hEnd : ∀ (L C : Addr) (s' : Shared) (m : Str → Option Value) (H' : Hp), L2.Inv X pins σ H' s' → Q (.ref L) H' → s'.heap.Ns C m → FpOk X pins H' C → compPost (model X.prog X.w) X.A X.xe use Qf (.ref L) C (.ok .next) s') :
    wpAny (model X.prog X.w) X.A (comprehension (.ListComp elt [⟨tg, iter, ifs, 0⟩] scope pos) scope X.env pos' (newList []) false (eval iter X.env) use) Qf X.xe s := by
  have hfree : ∀ y ∈ scope.names, y.2 = .free → ∃ c, X.env.cells.lookup y.1 = some c := fun y hy e => (ok.free y hy e).elim (fun k => I.ok.has _ (.inl k)) fun k => I.ok.has _ (.inr k)
  refine wpAny_comprehension_free (use := use) rfl hs (closure_ok hfree) ok.kind (fun y hy e => by rw [ok.uniq y hy, e]) <|
    thn (hi.run pins s σ H _ I h) fun xv s1 hx => thn hx fun itv s2 h2 => ?_
  obtain ⟨it, fp, tn, J, H2, rfl, I2, T, st2, f2, q⟩ := h2
  refine wpAny_newObj_type (newEnv_comp ?_) (by show 0 ≤ sizeLine; decide)
  generalize hD : s2.heap.objs.size = L
  have hLn : H2 L = none := I2.hok.fresh (Nat.le_of_eq hD)
  obtain ⟨W, ⟨m0, w0⟩, turn⟩ := q L hLn
  generalize hs3 : ({ s2 with heap := s2.heap.push { cls := .type "list", data := .seq ([] : List Value).toArray } } : Shared) = s3
  have I3 : L2.Inv X pins σ (upd H2 L (.lst [])) s3 := by
    rw [← hs3]
    refine I2.laid (t' := s2.toks) (fun b o e => Heap.get?_push_of_some _ e) (Nat.le_of_eq hD) ⟨Nat.zero_le _, [], 0, .nil, ?_⟩
    rw [← hD]
    exact Heap.get?_push_size _ rfl
  have h3 : s3.heap = s2.heap.push { cls := .type "list", data := .seq ([] : List Value).toArray } := by rw [← hs3]
  have f3 : ∀ b ∈ fp, FpOk X pins (upd H2 L (.lst [])) b ∧ b < s3.heap.objs.size := fun b hb => by
    have hlt : b < s2.heap.objs.size := by
      obtain ⟨o, e, _⟩ := T.obj _ _ st2 b hb
      exact Heap.lt_size e
    refine ⟨⟨?_, (f2 b hb).2⟩, by rw [h3, Heap.size_push]; exact Nat.lt_succ_of_lt hlt⟩
    rw [upd_ne (by rw [← hD]; exact Nat.ne_of_lt hlt)]
    exact (f2 b hb).1
  have st3 : tn 0 s3.heap := T.keep _ _ _ st2 fun b _ o e => by rw [h3]; exact Heap.get?_push_of_some _ e
  have I4 := block_start I3 ok hN f3
  have pg := hg s3 (upd H2 L (.lst [])) s3.heap.objs.size (cellsFrom (s3.heap.objs.size + 1) scope.names (cloFrom X.env.cells scope.names [])) fp
  have pt := ht s3 (upd H2 L (.lst [])) s3.heap.objs.size (cellsFrom (s3.heap.objs.size + 1) scope.names (cloFrom X.env.cells scope.names [])) fp
  have pe := he s3 (upd H2 L (.lst [])) s3.heap.objs.size (cellsFrom (s3.heap.objs.size + 1) scope.names (cloFrom X.env.cells scope.names [])) fp
  have px := I3.pin p (List.mem_append_left _ hpm)
  have pst : p.1 ∉ frs X.stack := fun hm => (List.mem_cons.mp (I3.stkSub p.1 hm)).elim px.2.2.1 px.2.2.2.1
  have apart : ∀ b ∈ fp, p.1 ≠ b := fun b hb => (f3 b hb).1.2.2.2.2.2 p (List.mem_append_left _ hpm)
  show codeAny _ _ (.compStart (.ListComp elt [⟨tg, iter, ifs, 0⟩] scope pos) 0 (.ref it) (.ref L) (compEnvC scope (cellsFrom (s3.heap.objs.size + 1) scope.names (cloFrom X.env.cells scope.names [])) s3.heap.objs.size X.env)) (compPost (model X.prog X.w) X.A X.xe use Qf (.ref L) s3.heap.objs.size) { s3 with heap := pushCells (s3.heap.push { cls := .type "dict", data := .dict #[] }) scope.names }
  have nfp : ∀ b ∈ fp, (upd H2 L (.lst [])) b = none := fun b hb => (f3 b hb).1.1
  generalize hce : compEnvC scope (cellsFrom (s3.heap.objs.size + 1) scope.names (cloFrom X.env.cells scope.names [])) s3.heap.objs.size X.env = ce at I4 pg pt pe ⊢
  have cL : ce.locals = s3.heap.objs.size := by subst hce; rfl
  generalize hH3 : upd H2 L (.lst []) = H3 at I3 I4 pg pt pe w0 nfp f3 px
  generalize hs4 : ({ s3 with heap := pushCells (s3.heap.push { cls := .type "dict", data := .dict #[] }) scope.names } : Shared) = s4 at I4 ⊢
  have kp4 : ∀ b o, s3.heap.get? b = some o → s4.heap.get? b = some o := fun b o e => by rw [← hs4]; exact pushCells_keeps _ _ _ _ (Heap.get?_push_of_some _ e)
  have st4 : tn 0 s4.heap := T.keep _ _ _ st3 fun b _ o e => kp4 b o e
  have I5 : L2.Inv (X.blk s3 H3 scope ce fp) [p] (wipe σ (own.map (·.2))) H3 s4 := I4.pins_of fun q hq => by
    rw [List.mem_singleton] at hq
    subst hq
    exact ⟨kp4 _ _ px.1, px.2.1, by show q.1 ≠ ce.locals; rw [cL]; exact Nat.ne_of_lt (Heap.lt_size px.1), pst, px.2.2.2.2⟩
  have I6 : L2.Inv (blkQ p X s3 H3 scope ce fp) [] (wipe σ (own.map (·.2))) H3 s4 := I5.toTry _
  have hotB : ∀ qs, HotP (blkQ p X s3 H3 scope ce fp) qs p := fun qs => ⟨hp, List.mem_append_left _ (List.mem_singleton.mpr rfl)⟩
  have stat : ∀ {σ' : Sg} {H' : Hp} {s' : Shared}, L2.Inv (blkQ p X s3 H3 scope ce fp) [] σ' H' s' → (∀ b ∈ fp, H' b = none) → ∀ b ∈ fp, FpOk (blkQ p X s3 H3 scope ce fp) [] H' b := fun {σ' H' s'} I' hn b hb =>
    ⟨hn b hb, (I'.ok.exf b hb).1, I'.ok.exfs b hb, .inl hb, fun x c e => (I'.ok.exf b hb).2 x c e, fun q hq => by
      have hq : q ∈ [p] ++ ([] : List (Addr × Obj)) := hq
      rw [List.append_nil, List.mem_singleton] at hq
      subst hq
      exact apart b hb⟩
  have walk : codeAny (model X.prog X.w) X.A (.compLoop (.ListComp elt [⟨tg, iter, ifs, 0⟩] scope pos) 0 (.ref it) (.ref L) ce) (compPost (model X.prog X.w) X.A X.xe use Qf (.ref L) s3.heap.objs.size) s4 := by
    refine compLoop_any (fun n s' => ∃ i H', L2.Inv (blkQ p X s3 H3 scope ce fp) [] (wipe σ (own.map (·.2))) H' s' ∧ tn i s'.heap ∧ (∀ b ∈ fp, H' b = none) ∧ W i n H') ?_ m0 ⟨0, H3, I6, st4, nfp, w0⟩
    rintro n s5 ⟨i, H5, J5, st5, n5, w5⟩
    rcases turn i n H5 w5 with ⟨stop, qq⟩ | ⟨go, Nx, hNx, step⟩
    · refine thnF (T.done (blkQ p X s3 H3 scope ce fp) rfl rfl rfl i [] s5 _ H5 (fun _ _ => False) (hotB []) J5 (stat J5 n5) st5 stop) fun r s6 ⟨hr, I6⟩ => ?_
      subst hr
      have I7 : L2.Inv X pins σ H5 s6 := I3.call' (ch := fp) I6.os I6.base I6.hok I6.bare fun b hb => ⟨(f3 b hb).1.2.2.2.1, (f3 b hb).1.2.1, (f3 b hb).1.2.2.2.2.1, (f3 b hb).1.2.2.2.2.2⟩
      have nC : H5 s3.heap.objs.size = none := by rw [← cL]; exact I6.free
      obtain ⟨m, hn, _⟩ := I6.loc
      have hn : s6.heap.Ns ce.locals m := hn
      rw [cL] at hn
      exact hEnd L _ s6 m H5 I7 qq hn (I3.fpOk (Nat.le_refl _) nC)
    · refine thnF (T.item (blkQ p X s3 H3 scope ce fp) rfl rfl rfl i [] s5 _ H5 (fun _ _ => False) (hotB []) J5 (stat J5 n5) st5 go) fun r s6 ⟨u, hr, h6⟩ => ?_
      subst hr
      refine thnF h6 fun _ s7 ⟨x, H7, I7, r7, y7, st7, n7⟩ => ?_
      have I7' := I7.pinned (stat I7 n7) (T.obj _ _ st7)
      refine thnF (pg.run _ s7 _ H7 x u _ I7' r7 (step x H7 y7)) fun _ s8 ⟨σ8, H8, I8, hw8, q8⟩ => ?_
      refine thnF (pt.run _ s8 σ8 H8 _ I8 q8) fun b s9 ⟨H9, I9, q9⟩ => ?_
      have fin : ∀ {s' : Shared} {H' : Hp}, L2.Inv (blkQ p X s3 H3 scope ce fp) ([] ++ pinsAt fp s7.heap) σ8 H' s' → Nx H' → ∃ m, m < n ∧ ∃ i H', L2.Inv (blkQ p X s3 H3 scope ce fp) [] (wipe σ (own.map (·.2))) H' s' ∧ tn i s'.heap ∧ (∀ b ∈ fp, H' b = none) ∧ W i m H' := fun {s' H'} I' nx => by
        obtain ⟨m', hm, w'⟩ := hNx H' nx
        have pin' : ∀ b ∈ fp, ∀ o, s7.heap.get? b = some o → s'.heap.get? b = some o ∧ H' b = none := fun b hb o e => by
          have z := I'.pin (b, o) (List.mem_append_right _ (List.mem_append_right _ (mem_pinsAt hb e)))
          exact ⟨z.1, z.2.1⟩
        have hl : (wipe σ (own.map (·.2))).length = σ8.length := by rw [← hw8, wipe_length]
        refine ⟨m', hm, i + 1, H', I'.unpinned.weak hl (fun j v e => ?_), T.keep _ _ _ st7 fun b hb o e => (pin' b hb o e).1, fun b hb => ?_, w'⟩
        · rw [← hw8] at e
          exact (wipe_some e).1
        · obtain ⟨o, e, _⟩ := T.obj _ _ st7 b hb
          exact (pin' b hb o e).2
      cases b with
      | false =>
        simp only [Bool.false_eq_true, if_false] at q9 ⊢
        exact fin I9 q9
      | true =>
        simp only [if_true] at q9 ⊢
        refine thnF (pe.run _ s9 σ8 H9 _ I9 q9) fun z s10 ⟨yv, H10, I10, r10, acc, hD10, hz10, nx⟩ => ?_
        exact app_ok (X := blkQ p X s3 H3 scope ce fp) I10 hD10 hz10 r10 fun s11 I11 => fin I11 nx
  exact codeAny_compStart_list walk (T.self X.A 0 _ _ _ st4 walk)
theorem pe_lcQ {p : Addr × Obj} {X : Cx} {elt tg iter : Expr} {ifs : List Expr} {scope : Scope} {own : List (Str × Nat)} {pos : Pos} {wi : TI} {g : TG} {tt : TT} {te : TE} (hp : Hot1 X.A p) (hpm : p ∈ X.pn) (hN : X.N.Nodup) (hi : PIQ p X tg iter wi) (ok : BlkOk X.N X.env.scope scope own)
    (hg : ∀ (s : Shared) (H : Hp) (C : Addr) (cl : List (Str × Addr)) (fp : List Addr), PG (blkQ p X s H scope (compEnvC scope cl C X.env) fp) tg g)
    (ht : ∀ (s : Shared) (H : Hp) (C : Addr) (cl : List (Str × Addr)) (fp : List Addr), PTs (blkQ p X s H scope (compEnvC scope cl C X.env) fp) ifs tt)
    (he : ∀ (s : Shared) (H : Hp) (C : Addr) (cl : List (Str × Addr)) (fp : List Addr), PE (blkQ p X s H scope (compEnvC scope cl C X.env) fp) elt te)
    (hs : ∀ x, foldedSetIterable iter X.env x = pure x := by intro _; rfl) : PE X (.ListComp elt [⟨tg, iter, ifs, 0⟩] scope pos) (tLc wi g tt te (own.map (·.2))) := by
  refine ⟨fun pins s σ H Q I h => ?_⟩
  rw [eval_ListComp]
  refine lcQ hp hpm hN I hi ok hg ht he hs h fun L C s' m H' J qq hn f => ⟨m, hn, fun h'' sb => ?_⟩
  obtain ⟨g0, g1, g2, g3, g4, g5⟩ := f
  exact ⟨.ref L, H', J.turned (t' := s'.toks) (fun b o hb e => (sb.2 b hb).trans e) g0 g1 g3 g4 g5, rfl, qq⟩
/-- name = [..] there -/
theorem ps_setQ {p : Addr × Obj} {X : Cx} {i : Nat} {y : Str} {py : Pos} {elt tg iter : Expr} {ifs : List Expr} {scope : Scope} {own : List (Str × Nat)} {pos spos : Pos} {wi : TI} {g : TG} {tt : TT} {te : TE} (hp : Hot1 X.A p) (hpm : p ∈ X.pn) (hN : X.N.Nodup) (hy : X.N[i]? = some y)
    (hyl : X.env.scope.names.lookup y = some .local) (hsw : swapsWith (.ListComp elt [⟨tg, iter, ifs, 0⟩] scope pos) (some (.Name y py)) spos.line X.env = pure true) (hi : PIQ p X tg iter wi) (ok : BlkOk X.N X.env.scope scope own)
    (hg : ∀ (s : Shared) (H : Hp) (C : Addr) (cl : List (Str × Addr)) (fp : List Addr), PG (blkQ p X s H scope (compEnvC scope cl C X.env) fp) tg g)
    (ht : ∀ (s : Shared) (H : Hp) (C : Addr) (cl : List (Str × Addr)) (fp : List Addr), PTs (blkQ p X s H scope (compEnvC scope cl C X.env) fp) ifs tt)
    (he : ∀ (s : Shared) (H : Hp) (C : Addr) (cl : List (Str × Addr)) (fp : List Addr), PE (blkQ p X s H scope (compEnvC scope cl C X.env) fp) elt te)
    (hs : ∀ x, foldedSetIterable iter X.env x = pure x := by intro _; rfl) :
    PS X (.Assign [.Name y py] (.ListComp elt [⟨tg, iter, ifs, 0⟩] scope pos) spos) (tAsg (tLc wi g tt te (own.map (·.2))) (gName i)) := by
  refine ⟨fun pins s σ H D I h => ?_⟩
  rw [exec_Assign_Name_used _ _ _ _ hsw]
  refine wpAny_bind (wpAny_standAt (wpAny_bind ?_))
  have h : tLc wi g tt te (own.map (·.2)) σ H (fun x H1 => gName i x σ H1 D.nx) := h
  have main := lcQ (pos := pos) (pos' := firstIterPos [⟨tg, iter, ifs, 0⟩] pos) (use := some (assign (.Name y py) X.env)) (Qf := fun _ s' => SP X pins D .next s') hp hpm hN I hi ok hg ht he hs h fun L C s' m H' J qq hn f => by
    show wpAny _ _ (assign (.Name y py) X.env (.ref L)) _ _ _
    refine wpAny_assign_Name (store_ok2 (v := V.ref L) J hN hy (.inl hyl) rfl (fun s2 I2 ⟨a, sb, ha⟩ => ?_) (.inr hyl))
    obtain ⟨g0, g1, g2, g3, g4, g5⟩ := f
    have haC : C ≠ a := by
      rcases ha with z | z
      · rw [z]; exact g1
      · exact fun e => g4 y a z e.symm
    exact ⟨m, hn.sameBut sb haC, fun h3 sb3 => ⟨_, H', I2.turned (t' := s2.toks) (fun b o hb e => (sb3.2 b hb).trans e) g0 g1 g3 g4 g5, qq⟩⟩
  exact wpAny_bind (thn main fun _ s' hq => wpAny_pure (wpAny_pure hq))
end HT2
end
section
set_option Elab.async false
set_option linter.all false
set_option maxRecDepth 100000
set_option maxHeartbeats 4000000
namespace Pd
open PySem L2 PyProof.Rows L2H

/-! ### raise X('m') -/
def sRaise (n : String) : Sv := fun ρ => .ex n ρ
section
variable {X : Cx} {B : Bs} {W : WX} {x y z : Expr} {st b0 : Stmt} {rest body suite : List Stmt} {a b d : Ev} {s t : Sv} {pos p p2 pos' np : Pos} {D : Ends} {σ : L2.St} {H F : Hp} {ρ : Env}
theorem s_raise {n : String} {nm m : Str} {j : Nat} {C : Addr} {bmB : List Value} {Bn newId initId : String} (hC : B.ec n = C) (hc : X.calm = true) (tk : L2N.Takes X W) (Fx : ExcBaseFacts Bn newId initId bmB) (q : PySem.W.excIn X.K C bmB newId = true) (gC : X.mg nm = some (.ref C))
    (kC : PySem.W.keepIn X.K (.ref C) = true) (r : Raises X (.ref C)) (hg : Gl X nm) (hdb : (nm == ("__debug__" : Str)) = false := by decide) : PSD X B W (.Raise (some (.Call (.Name nm p) [.Constant (.str m) j p2] [] pos')) none pos) (sRaise n) :=
  ps_wk (L2N.ps_raise hc tk (L2N.pmk_own Fx q gC kC r hg hdb)) fun D σ H ⟨F, ρ, S, h⟩ => by
    subst hC
    exact h F σ H (Ex.refl F) S

/-! ### the handled error -/
def Bs.hot (B : Bs) (a : Addr) (n : String) : Bs := { B with hx := a, hn := n }
def noE (ρ : Env) : Bool := ρ.all fun s => match s with
  | .e _ => false
  | _ => true
theorem noE_at {i : Nat} {n : String} (h : noE ρ = true) : ρ[i]? ≠ some (.e n) := fun e => by
  unfold noE at h
  rw [List.all_eq_true] at h
  have := h _ (List.mem_of_getElem? e)
  cases this
theorem St.reHot {a : Addr} {n : String} (S : St B F σ H ρ) (h : noE ρ = true) : St (B.hot a n) F σ H ρ := by
  refine ⟨S.len, S.ex, fun i s x h1 h2 => ?_, S.sep, S.keep, S.low, S.new, S.dom, S.iow, S.tab, S.tb0, S.tf⟩
  have q := S.sl i s x h1 h2
  cases s with
  | u => exact True.intro
  | v d => exact q
  | o d => exact q
  | b d => exact q
  | e n => exact absurd h1 (noE_at h)
theorem St.unHot {a : Addr} {n : String} (S : St (B.hot a n) F σ H ρ) (h : noE ρ = true) : St B F σ H ρ := by
  refine ⟨S.len, S.ex, fun i s x h1 h2 => ?_, S.sep, S.keep, S.low, S.new, S.dom, S.iow, S.tab, S.tb0, S.tf⟩
  have q := S.sl i s x h1 h2
  cases s with
  | u => exact True.intro
  | v d => exact q
  | o d => exact q
  | b d => exact q
  | e n => exact absurd h1 (noE_at h)
theorem St.setE {a : Addr} {n : String} (S : St (B.hot a n) F σ H ρ) (i : Nat) : St (B.hot a n) F (σ.set i (some (.ref a))) H (ρ.set i (.e n)) := by
  refine ⟨by rw [List.length_set, List.length_set]; exact S.len, S.ex, fun j t x h1 h2 => ?_, fun j k t u q h1 h2 h3 h4 h5 h6 => ?_, S.keep, S.low, S.new, S.dom, S.iow, S.tab, S.tb0, S.tf⟩
  · by_cases e : i = j
    · subst e
      have l1 := get_lt h1
      have l2 := get_lt h2
      rw [List.length_set] at l1 l2
      rw [List.getElem?_set_self l1] at h1
      rw [List.getElem?_set_self l2] at h2
      cases h1
      cases h2
      exact ⟨rfl, rfl⟩
    · rw [List.getElem?_set_ne e] at h1 h2
      exact S.sl j t x h1 h2
  · have out : ∀ (m : Nat) (t : Sl), (ρ.set i (.e n))[m]? = some t → t.mine ≠ none → i ≠ m := fun m t e1 e2 z => by
      subst z
      have l := get_lt e1
      rw [List.length_set] at l
      rw [List.getElem?_set_self l] at e1
      cases e1
      exact e2 rfl
    have a1 := out j t h1 h3
    have b1 := out k u h2 h4
    rw [List.getElem?_set_ne a1] at h1 h5
    rw [List.getElem?_set_ne b1] at h2 h6
    exact S.sep j k t u q h1 h2 h3 h4 h5 h6
/-- what is known of the classes: kn the names, sub n: is it caught, isE n m: is an n an m -/
structure Errs (K : Frag) (ec : String → Addr) (kn : String → Bool) (km : String → Bool) (isE : String → String → Bool) : Prop where
  cls : ∀ n, kn n = true → ExcC K (ec n)
  is_ : ∀ n m, kn n = true → km m = true → PySem.W.kitOne K (.ref (ec n)) (.ref (ec m)) = some (isE n m)
  exm : ∀ n m, kn n = true → km m = true → PySem.W.exmOne K (.ref (ec n)) (.ref (ec m)) = some (isE n m)
/-- the context's handled error is B's -/
structure HotB (X : Cx) (B : Bs) : Prop where
  at_ : ∃ oe, (B.hx, oe) ∈ X.pn ∧ Hot1 X.A (B.hx, oe) ∧ oe.cls = .ref (B.ec B.hn) ∧ oe.dict = none ∧ ∃ vs, oe.data = .fields vs
theorem HotB.rb (h : HotB X B) (H0 F0 : Hp) : HotB X (B.rb H0 F0) := ⟨h.at_⟩
def eIsE (kn km : String → Bool) (isE : String → String → Bool) (i : Nat) (m : String) : Ev := fun ρ => match ρ[i]? with
  | some (.e n) => if kn n && km m then .ok (.v (.bool (isE n m))) ρ else .bad
  | _ => .bad
theorem cr_isX {a D : Addr} {oe : Obj} (C : ExcC X.K D) (hm : (a, oe) ∈ X.pn) (h1 : oe.cls = .ref D) (h2 : oe.dict = none) (hf : ∃ vs, oe.data = .fields vs) : CallR X (.builtin "isinstance") (rIsE X.K D a) := by
  intro pins s σ H xs us Q I r h
  obtain ⟨c, cv, k, rfl, hcv, e, q⟩ := h
  cases r with
  | cons rx rr =>
    cases rr with
    | cons rt rr =>
      cases rr
      cases rx
      have ec := hcv _ rt
      subst ec
      have hget := (I.pin (a, oe) (List.mem_append_left _ hm)).1
      obtain ⟨vs, hv⟩ := hf
      have J : PySem.W.InstAt s.heap a oe D none := by
        obtain ⟨oc, od, oda, osl⟩ := oe
        dsimp only at h1 h2 hv
        subst h1 h2 hv
        exact ⟨hget, rfl, rfl, trivial⟩
      exact PySem.W.kia_one (PySem.W.handS_kitx_exc C.hg C.hk C.hs C.hd C.ha C.hn C.ht C.hm) I.kIn J e (fun z => nomatch z) fun tk => ⟨.bl k, H, I.kept (t' := tk) fun _ _ z => z, rfl, q⟩
theorem d_isE {kn km : String → Bool} {isE : String → String → Bool} {i : Nat} {m : String} {nm : Str} {C : Addr} (R : Errs X.K B.ec kn km isE) (hh : HotB X B) (hC : B.ec m = C) (hg : Gl X "isinstance") (hm : X.mg "isinstance" = none) (hgC : Gl X nm) (hmC : X.mg nm = some (.ref C)) (hv : PE X x (tVar i))
    (hdb : (nm == ("__debug__" : Str)) = false := by decide)
    (s1 : starEach [.Name nm p2] X.env = (false, eval (.Name nm p2) X.env) :: starEach [] X.env := by rfl)
    (he : starEach [x, .Name nm p2] X.env = (false, eval x X.env) :: starEach [.Name nm p2] X.env := by rfl) (hpl : (backTo pos (starEach [.Name nm p2] X.env)).any (·.1) = false := by rfl) :
    PED X B W (.Call (.Name "isinstance" p) [x, .Name nm p2] [] pos) (eIsE kn km isE i m) := by
  obtain ⟨oe, hp, _, hc, hd, hf⟩ := hh.at_
  by_cases hk : kn B.hn = true ∧ km m = true
  · refine pe_wk (pe_callB (cr_isX (R.cls _ hk.1) hp hc hd hf) hg hm PyProof.Rows.boot_isinstance (pa_cons hv (pa_cons (pe_glob hgC hmC (v := .ref C) rfl hdb) pa_nil s1) he) (by decide) (by decide) he hpl) fun σ H Q ⟨F, ρ, S, h⟩ => ?_
    unfold eIsE at h
    cases e : ρ[i]? with
    | none => rw [e] at h; exact h.elim
    | some s =>
      rw [e] at h
      cases s with
      | e n =>
        simp only at h
        split at h
        · have hl : i < σ.length := by rw [S.len]; exact get_lt e
          obtain ⟨e1, e2⟩ := S.sl i _ _ e (List.getElem?_eq_getElem hl)
          refine ⟨.ref B.hx, by rw [List.getElem?_eq_getElem hl, e1], .ref C, .ref C, isE n m, rfl, fun u r => r, ?_, h F H _ (Ex.refl F) S (.bl _)⟩
          have := R.is_ _ _ hk.1 hk.2
          rw [hC] at this
          rw [← e2]
          exact this
        · exact h.elim
      | u => exact h.elim
      | v _ => exact h.elim
      | o _ => exact h.elim
      | b _ => exact h.elim
  · refine ⟨fun pins s σ H Q I ⟨F, ρ, S, h⟩ => ?_⟩
    exfalso
    unfold eIsE at h
    cases e : ρ[i]? with
    | none => rw [e] at h; exact h
    | some s =>
      rw [e] at h
      cases s with
      | e n =>
        simp only at h
        split at h
        · rename_i hb
          have hl : i < σ.length := by rw [S.len]; exact get_lt e
          obtain ⟨e1, e2⟩ := S.sl i _ _ e (List.getElem?_eq_getElem hl)
          rw [Bool.and_eq_true] at hb
          rw [← e2] at hb
          exact hk hb
        · exact h
      | u => exact h
      | v _ => exact h
      | o _ => exact h
      | b _ => exact h

/-! ### try -/
def sTry (kn km : String → Bool) (isE : String → String → Bool) (m : String) (i : Nat) (b su : Sv) : Sv := fun ρ => match b ρ with
  | .ex n ρ1 => if kn n && km m then (if isE n m then (if noE ρ1 then match su (ρ1.set i (.e n)) with
      | .nx ρ2 => if noE (ρ2.set i .u) then .nx (ρ2.set i .u) else .bad
      | .rt (.v d) ρ2 => if noE (ρ2.set i .u) then .rt (.v d) (ρ2.set i .u) else .bad
      | .bk ρ2 => if noE (ρ2.set i .u) then .bk (ρ2.set i .u) else .bad
      | .ct ρ2 => if noE (ρ2.set i .u) then .ct (ρ2.set i .u) else .bad
      | _ => .bad else .bad) else .ex n ρ1) else .bad
  | o => o
theorem s_try {kn km : String → Bool} {isE : String → String → Bool} {m : String} {i : Nat} {C : Addr} {nm en : Str} (R : Errs X.K B.ec kn km isE) (hC : B.ec m = C) (hs : X.stack = X.env :: X.outer) (hf : X.env.frame = some X.env.locals) (hN : X.N.Nodup) (hi : X.N[i]? = some en)
    (hln : X.env.kindOf en = some .local) (hg : Gl X nm) (hm : X.mg nm = some (.ref C)) (tk : L2N.Takes X W)
    (hb : ∀ (W' : WX) (pn : List (Addr × Obj)) (xe : Value → Shared → Prop), L2N.Takes (X.tr pn xe) W' → PassesOwn (model X.prog X.w) X.A X.env xe → PSsD (X.tr pn xe) B W' body s)
    (hsu : ∀ (a : Addr) (oe : Obj) (n : String) (pn : List (Addr × Obj)), HotB (X.suite a ((a, oe) :: pn)) (B.hot a n) → PSsD (X.suite a ((a, oe) :: pn)) (B.hot a n) WNo (b0 :: suite) t)
    (hdb : (nm == ("__debug__" : Str)) = false := by decide) :
    PSD X B W (.Try body [.ExceptHandler (some (.Name nm np)) (some en) (b0 :: suite) pos'] [] [] pos) (sTry kn km isE m i s t) := by
  refine ps_wk (L2N.ps_try_as (ts := fun a cls d D σ H => ∃ n, cls = .ref (B.ec n) ∧ d = none ∧ tS (B.hot a n) WNo t D σ H) hs hf hN hi hln ⟨hg, hdb, .inl hm⟩ tk hb fun a oe cls d pn hz hfl => ?_) fun D σ H ⟨F, ρ, S, h⟩ => ?_
  · refine ⟨fun pins s0 σ0 H0 D0 I ⟨n, e1, e2, q⟩ => ?_⟩
    subst e1
    subst e2
    obtain ⟨h1, h2, h3⟩ := hz
    obtain ⟨vs, hv⟩ := hfl
    refine (hsu a oe n pn ⟨oe, List.mem_cons_self .., ⟨rfl, vs, hv, h3 vs hv⟩, h1, h2, vs, hv⟩).run pins s0 σ0 H0 D0 I q
  · refine ⟨F, ρ, S, ?_⟩
    unfold sTry at h
    cases e : s ρ with
    | nx ρ1 => rw [e] at h; exact h
    | rt r ρ1 => rw [e] at h; exact h
    | bk ρ1 => rw [e] at h; exact h
    | ct ρ1 => rw [e] at h; exact h
    | bad => rw [e] at h; exact h
    | ex n ρ1 =>
      rw [e] at h
      simp only at h
      split at h
      · rename_i hk
        rw [Bool.and_eq_true] at hk
        intro F1 σ1 H1 x1 S1
        refine ⟨isE n m, by rw [← hC]; exact R.exm _ _ hk.1 hk.2, fun hb a ha => ?_, fun hb => ?_⟩
        · rw [if_pos hb] at h
          split at h
          · rename_i hn
            refine ⟨n, rfl, rfl, F1, ρ1.set i (.e n), (S1.reHot hn).setE i, ?_⟩
            have back : ∀ {F2 σ2 H2 ρ2}, St (B.hot a n) F2 σ2 H2 ρ2 → noE (ρ2.set i .u) = true → St B F2 (σ2.set i none) H2 (ρ2.set i .u) := fun S2 h2 => (S2.setU i none).unHot h2
            cases e2 : t (ρ1.set i (.e n)) with
            | nx ρ2 =>
              rw [e2] at h
              simp only at h
              split at h
              · rename_i h2; exact fun F2 σ2 H2 x2 S2 => h F2 _ H2 (x1.trans x2) (back S2 h2)
              · exact h.elim
            | bk ρ2 =>
              rw [e2] at h
              simp only at h
              split at h
              · rename_i h2; exact fun F2 σ2 H2 x2 S2 => h F2 _ H2 (x1.trans x2) (back S2 h2)
              · exact h.elim
            | ct ρ2 =>
              rw [e2] at h
              simp only at h
              split at h
              · rename_i h2; exact fun F2 σ2 H2 x2 S2 => h F2 _ H2 (x1.trans x2) (back S2 h2)
              · exact h.elim
            | rt r ρ2 =>
              rw [e2] at h
              cases r with
              | v d =>
                simp only at h
                split at h
                · rename_i h2; exact fun F2 σ2 H2 x x2 S2 R2 => h F2 _ H2 x (x1.trans x2) (back S2 h2) R2
                · exact h.elim
              | s _ => exact h.elim
              | f _ => exact h.elim
            | ex _ _ => rw [e2] at h; exact h.elim
            | bad => rw [e2] at h; exact h.elim
          · exact h.elim
        · rw [if_neg (by rw [hb]; exact Bool.false_ne_true)] at h
          exact h F1 σ1 H1 x1 S1
      · exact h.elim
end
end Pd
end
section
set_option Elab.async false
set_option linter.all false
set_option maxRecDepth 100000
set_option maxHeartbeats 4000000
namespace Pd
open PySem L2 PyProof.Rows L2H PySem.Spec

/-! ### defs that look at the handled error -/
abbrev FnE := String → FOut
def spX (c : Ct) (ec : String → Addr) (f : FnE) (p : Addr × Obj) : Sp := fun vs H Q E => ∃ F n, Ex F H ∧ (TabOk c H ∧ TfOk c F) ∧ vs = [.ref p.1] ∧ p.2.cls = .ref (ec n) ∧ p.2.dict = none ∧ FOk c ec F H [] Q E (f n)
structure FnX (P : Program) (w : World) (K : Frag) (mg : Str → Option Value) (base : Heap) (CX : CXT) (k : Nat) (f : Addr) (fd : FuncData) (ps : List Str) (sp : Addr × Obj → Sp) : Prop where
  len : ∀ p vs H Q E, sp p vs H Q E → vs.length = ps.length
  run : ∀ (A : Around) (outer : List PySem.Env) (s : Shared) (H : Hp) (args : PySem.Args) (us : List Value) (vs : List V) (Q : VK) (E : XK) (p : Addr × Obj), RoomH k A → Hot1 A p → PinOk outer H s p → Env0 P w K mg base A outer s H → BindsTo s fd args (ps.zip us) → Vals vs us → sp p vs H Q E →
    codeAny (model P w) A (.call (.ref f) args) (CR CX outer P w H s Q E) s
def toFnX (n : Nat) (b : Sv) : FnE := fun m => match b (.e m :: List.replicate (n - 1) .u) with
  | .rt (.v d) _ => .ret d []
  | _ => .bad
section
variable {c : Ct} {ec : String → Addr} {P : Program} {w : World} {K : Frag} {mg : Str → Option Value} {base : Heap} {k : Nat} {f : Addr} {name qual : Str} {params : Arguments} {body : List Stmt} {scope : Scope} {dV kV doc pm cdv ct oc : Value} {an od : Option Addr}
    {osl : Array (Option Value)} {N ps : List Str} {b : Sv} {CX : CXT}
theorem fnX0 {sp : Addr × Obj → Sp} (lk : K.lookup f = some ⟨oc, od, .func (PySem.W.fnOf name qual params body scope dV kV doc pm an cdv ct), osl⟩) (hcd : PySem.W.codeIn K cdv qual = true) (S : FnScope N ps scope)
    (len : ∀ p vs H Q E, sp p vs H Q E → vs.length = ps.length)
    (hb : ∀ (A : Around) (outer : List PySem.Env) (s : Shared) (H : Hp) (vs : List V) (Q : VK) (E : XK) (p : Addr × Obj), Hot1 A p → RoomH k (A.deeper (envOfC qual scope s.heap.objs.size f cdv)) → sp p vs H Q E →
      ∃ t, PSs (cxH CX P w K mg base N qual scope f cdv A outer s H E p) body t ∧ t { nx := fun _ H' => Q .non H', rt := Q } (L2.start N vs) H) :
    FnX P w K mg base CX (k + 1) f (PySem.W.fnOf name qual params body scope dV kV doc pm an cdv ct) ps sp := by
  refine ⟨len, ?_⟩
  intro A outer s H args us vs Q E p hr hot hpin e0 hbind r hsp
  have hl := len _ _ _ _ _ hsp
  have KX : K.In s.heap := e0.mod.kin.keeps fun q o e => (e0.bs q o e).1
  have lim : s.heap.NoLimit := e0.mod.nolimit.keeps fun q o e => (e0.bs q o e).1
  refine codeAny_call_function hr.depth (KX _ _ lk) rfl S.co S.gen rfl (PySem.W.codeRec_of KX hcd) (hbind _ _ _ _ ?_)
  refine wpAny_newFunctionEnv_cells S.kind (fun y hy => (S.par y.1 (List.of_mem_zip hy).1).imp id fun q => ⟨q, PySem.W.cellsFrom_some _ _ _ (.inl q)⟩) fun env he s1 x => ?_
  subst he
  refine ⟨lim.keeps x.toInCall.keep, codeAny_func ?_⟩
  obtain ⟨t, ht, hq⟩ := hb A outer s H vs Q E p hot (hr.deeper _) hsp
  have I := inv_startH (CX := CX) (P := P) (w := w) (qual := qual) (f := f) (cd := cdv) (A := A) (E := E) S hpin e0 hl r x
  refine wpAny_mono (ht.run [] s1 (L2.start N vs) H _ I hq) (fun fl s' hs => ?_) fun e s' hs => hs
  match fl, hs with
  | .ret u, ⟨v, σ', H', J, rv, q⟩ => exact ⟨v, H', J.os, J.bare, J.base, J.hok, rv, q⟩
  | .next, ⟨σ', H', J, q⟩ => exact ⟨.non, H', J.os, J.bare, J.base, J.hok, rfl, q⟩
  | .brk, ⟨_, _, _, q⟩ => exact q.elim
  | .cont, ⟨_, _, _, q⟩ => exact q.elim
theorem fnX (lk : K.lookup f = some ⟨oc, od, .func (PySem.W.fnOf name qual params body scope dV kV doc pm an cdv ct), osl⟩) (hcd : PySem.W.codeIn K cdv qual = true) (S : FnScope N ps scope) (hm : ps.length = 1) (hN : 1 ≤ N.length)
    (hb : ∀ (A : Around) (outer : List PySem.Env) (s : Shared) (H : Hp) (E : XK) (p : Addr × Obj) (B : Bs), RoomH k (A.deeper (envOfC qual scope s.heap.objs.size f cdv)) → B.c = c → B.ec = ec → HotB (cxH (L2N.CX P w) P w K mg base N qual scope f cdv A outer s H E p) B →
      (∃ p0 oe, (p0, oe) ∈ (cxH (L2N.CX P w) P w K mg base N qual scope f cdv A outer s H E p).pn ∧ Hot1 (A.deeper (envOfC qual scope s.heap.objs.size f cdv)) (p0, oe)) →
      PSsD (cxH (L2N.CX P w) P w K mg base N qual scope f cdv A outer s H E p) B (fun cls d _ H => E cls d H) body b) :
    FnX P w K mg base (L2N.CX P w) (k + 1) f (PySem.W.fnOf name qual params body scope dV kV doc pm an cdv ct) ps (spX c ec (toFnX N.length b)) := by
  refine fnX0 lk hcd S (fun p vs H Q E ⟨F, n, _, _, e, _⟩ => by rw [e, hm]; rfl) ?_
  intro A outer s H vs Q E p hot hr ⟨F, n, e, tk, hv, hc, hd, q⟩
  subst hv
  obtain ⟨hh, vs0, hv0, hv1⟩ := id hot
  have hot2 : Hot1 (A.deeper (envOfC qual scope s.heap.objs.size f cdv)) p := hot
  refine ⟨_, hb A outer s H E p ⟨c, H, F, fun _ => none, ec, p.1, n⟩ hr rfl rfl ⟨p.2, List.mem_singleton.mpr rfl, hot2, hc, hd, vs0, hv0⟩ ⟨p.1, p.2, List.mem_singleton.mpr rfl, hot2⟩, F, .e n :: List.replicate (N.length - 1) .u, ?_, ?_⟩
  · refine ⟨?_, e, ?_, ?_, fun q o h _ _ => h, Ex.refl F, fun q _ h => h, fun q h => h, fun i q h => (nomatch h), tk.1, fun q z => tk.1.dom z, tk.2⟩
    · unfold L2.start
      simp
    · intro i sl x h1 h2
      cases i with
      | zero =>
        simp at h1
        subst h1
        simp [L2.start] at h2
        subst h2
        exact ⟨rfl, rfl⟩
      | succ i =>
        have : sl = .u := by
          have h1 : (List.replicate (N.length - 1) Sl.u)[i]? = some sl := by simpa using h1
          exact (List.mem_replicate.mp (List.mem_of_getElem? h1)).2
        subst this
        exact True.intro
    · intro i j sl tl a h1 h2 h3
      exfalso
      cases i with
      | zero => simp at h1; subst h1; exact h3 rfl
      | succ i =>
        have h1 : (List.replicate (N.length - 1) Sl.u)[i]? = some sl := by simpa using h1
        rw [(List.mem_replicate.mp (List.mem_of_getElem? h1)).2] at h3
        exact h3 rfl
  · unfold toFnX at q
    cases e2 : b (.e n :: List.replicate (N.length - 1) .u) with
    | rt r ρ =>
      rw [e2] at q
      cases r with
      | v d => exact fun F' σ' H' v x S R => q F' H' v ⟨S.low, S.ex, fun q o h _ t => S.keep q o h (fun _ z => (nomatch z)) t, S.new, S.dom, .nil, S.tab⟩ R
      | s _ => exact q.elim
      | f _ => exact q.elim
    | nx _ => rw [e2] at q; exact q.elim
    | bk _ => rw [e2] at q; exact q.elim
    | ct _ => rw [e2] at q; exact q.elim
    | ex _ _ => rw [e2] at q; exact q.elim
    | bad => rw [e2] at q; exact q.elim
end
def eCallX (i : Nat) (f : FnE) : Ev := fun ρ => match ρ[i]? with
  | some (.e n) => match f n with
    | .ret d [] => .ok (.v d) ρ
    | _ => .bad
  | _ => .bad
section
variable {X : Cx} {B : Bs} {W : WX} {x : Expr} {pos p : Pos} {σ : L2.St} {H F : Hp} {ρ : Env}
theorem d_callX {k i : Nat} {g : Addr} {fd : FuncData} {ps : List Str} {nm : Str} {f : FnE} (Fo : FnX X.prog X.w X.K X.mg X.base (L2N.CX X.prog X.w) k g fd ps (spX B.c B.ec f)) (hr : RoomH k X.A) (hh : HotB X B) (hg : Gl X nm) (hm : X.mg nm = some (.ref g)) (hk : PySem.W.keepIn X.K (.ref g) = true)
    (hb : Binds X.K fd ps []) (hv : PE X x (tVar i)) (hdb : (nm == ("__debug__" : Str)) = false := by decide) (he : starEach [x] X.env = (false, eval x X.env) :: starEach [] X.env := by rfl) (hpl : (backTo pos (starEach [] X.env)).any (·.1) = false := by rfl) :
    PED X B W (.Call (.Name nm p) [x] [] pos) (eCallX i f) := by
  obtain ⟨oe, hp, hot, hc, hd, hf⟩ := hh.at_
  refine ⟨fun pins s σ H Q I ⟨F, ρ, S, h⟩ => ?_⟩
  unfold eCallX at h
  cases e : ρ[i]? with
  | none => rw [e] at h; exact h.elim
  | some sl =>
    rw [e] at h
    cases sl with
    | u => exact h.elim
    | v _ => exact h.elim
    | o _ => exact h.elim
    | b _ => exact h.elim
    | e n =>
      simp only at h
      have hl : i < σ.length := by rw [S.len]; exact get_lt e
      obtain ⟨e1, e2⟩ := S.sl i _ _ e (List.getElem?_eq_getElem hl)
      have hσ : σ[i]? = some (some (.ref B.hx)) := by rw [List.getElem?_eq_getElem hl, e1]
      cases ef : f n with
      | bad => rw [ef] at h; exact h.elim
      | ex _ _ => rw [ef] at h; exact h.elim
      | own _ _ => rw [ef] at h; exact h.elim
      | ret d os =>
        rw [ef] at h
        cases os with
        | cons _ _ => exact h.elim
        | nil =>
          simp only at h
          have ha : PA X [x] (tCons (tVar i) tNil) := pa_cons hv pa_nil he
          refine wpAny_Call_Name_kw (ld_glob I hg hm ?_ hdb)
          refine PySem.W.callWith_K (h₀ := X.base) I.ok.mod.kin hk (thn (ha.run pos pins s σ H (fun vs H1 => vs = [V.ref B.hx] ∧ H1 = H) I ⟨_, hσ, rfl, rfl⟩) fun us s1 hus => ?_) he hpl
          obtain ⟨vs, H1, I1, r, ev, eH⟩ := hus
          subst ev
          rw [eH] at I1
          refine ⟨I1.kIn, ?_⟩
          have hlen : us.length = ps.length := by
            rw [← r.length]
            exact Fo.len (B.hx, oe) [.ref B.hx] H Q (WE W σ) ⟨F, n, S.ex, ⟨S.tab, S.tf⟩, rfl, by rw [← e2]; exact hc, hd, by rw [ef]; exact fun F' H' v A rr => h F' H' v A.f (S.aft0 A) rr⟩
          have bd := hb s1 us I1.kIn (by rw [List.append_nil]; exact hlen)
          rw [List.append_nil] at bd
          have P1 := I1.pin (B.hx, oe) (List.mem_append_left _ hp)
          have hpin : PinOk X.stack H s1 (B.hx, oe) := ⟨P1.1, P1.2.1, fun hm => (List.mem_cons.mp (I1.stkSub B.hx hm)).elim P1.2.2.1 P1.2.2.2.1, P1.2.2.2.2⟩
          refine wpAny_call (codeAny_mono (Fo.run X.A X.stack s1 H ⟨us, []⟩ us [.ref B.hx] Q (fun _ _ _ => False) (B.hx, oe) hr hot hpin I1.env0 bd r ⟨F, n, S.ex, ⟨S.tab, S.tf⟩, rfl, by rw [← e2]; exact hc, hd, by rw [ef]; exact fun F' H' v A rr => h F' H' v A.f (S.aft0 A) rr⟩) fun res s' hq => ?_)
          match res, hq with
          | .ok (.ret u), hq => exact I1.after hq
          | .ok .next, hq => exact hq.elim
          | .ok .brk, hq => exact hq.elim
          | .ok .cont, hq => exact hq.elim
          | .error e, hq =>
            obtain ⟨_, _, _, _, _, _, _, _, _, _, _, _, z⟩ := hq
            exact z.elim

/-! ### a comprehension there -/
def tgQ (us : List Tg) : Tg := fun d ρ => match d with
  | .tuple ds => goT us ds ρ
  | _ => none
def iSeqL (a : Ev) : EvI := fun ρ => (a ρ).bdI fun r ρ1 => match frzR ρ1 r with
  | some (.list ds, ρ2) => .ok ds ρ2
  | _ => .bad
theorem i_seqQ {p : Addr × Obj} {tg : Expr} {a : Ev} (ha : PED X B W x a) : HT2.PIQ p X tg x (tI B W (iSeqL a)) := by
  refine ⟨fun pins s σ H R I ⟨F, ρ, S, h⟩ => (HT2.pi_lst ha).run pins s σ H R I (bdI_ok S h fun r ρ1 F1 H1 v e1 S1 R1 h1 => ?_)⟩
  split at h1
  · rename_i ds ρ2 e2
    obtain ⟨F2, x2, S2, q2⟩ := frzR_ok S1 R1 e2
    obtain ⟨q, vs, rfl, r, rs⟩ := q2.listI
    exact ⟨q, rfl, ⟨vs, .inl (S2.ex.rd _ _ r)⟩, h1 F2 H1 _ x2 S2 (itOk_list r rs)⟩
  · exact h1.elim
theorem g_tupQ {es : List Expr} {k n : Nat} {us : List Tg} {ws : List Nat} {q : Addr × Obj} (hK : B.c.K = X.K) (hot : Hot1 X.A q) (hq : q ∈ X.pn) (h : PGsD X B es ws us) (hl : us.length = n)
    (hn : (assignEach es X.env).length = n := by rfl) (hst : (assignEach es X.env).findIdx? (·.1) = none := by rfl) : PGD X B (.Tuple es k pos) ws (tgQ us) :=
  pg_wk (HT2.pg_tupQ hot hq h hn hst) fun v σ H Q ⟨F, ρ, d, ρ', S, r, e, kk⟩ => by
    cases d with
    | tuple ds =>
      obtain ⟨a, vs, rfl, r1, r2⟩ := r.tupI
      exact ⟨a, vs, rfl, by rw [← hK]; exact (r1.ex S.ex).sq, by rw [r2.length, ← goT_len e, hl], F, ρ, ds, ρ', S, r2, e, kk⟩
    | _ => cases e
theorem d_lcQ {ws : List Nat} {u : Tg} {c : EvT} {e a : Ev} {elt tg iter : Expr} {ifs : List Expr} {scope : Scope} {own : List (Str × Nat)} {q : Addr × Obj} (hot : Hot1 X.A q) (hq : q ∈ X.pn) (hN : X.N.Nodup) (ha : PED X B W iter a) (ok : BlkOk X.N X.env.scope scope own) (hv : ∀ j ∈ ws, j ∈ own.map (·.2))
    (hg : ∀ (s : Shared) (H : Hp) (C : Addr) (cl : List (Str × Addr)) (fp : List Addr) H0 F0, PGD (HT2.blkQ q X s H scope (compEnvC scope cl C X.env) fp) (B.rb H0 F0) tg ws u)
    (ht : ∀ (s : Shared) (H : Hp) (C : Addr) (cl : List (Str × Addr)) (fp : List Addr) H0 F0, PTsD (HT2.blkQ q X s H scope (compEnvC scope cl C X.env) fp) (B.rb H0 F0) ifs c)
    (he : ∀ (s : Shared) (H : Hp) (C : Addr) (cl : List (Str × Addr)) (fp : List Addr) H0 F0, PED (HT2.blkQ q X s H scope (compEnvC scope cl C X.env) fp) (B.rb H0 F0) WNo elt e) (hs : ∀ x, foldedSetIterable iter X.env x = pure x := by intro _; rfl) :
    PED X B W (.ListComp elt [⟨tg, iter, ifs, 0⟩] scope pos) (eLc (own.map (·.2)) u c e (iSeqL a)) :=
  pe_wk (HT2.pe_lcQ hot hq hN (i_seqQ ha) ok (fun s H C cl fp => pg_ex (hg s H C cl fp)) (fun s H C cl fp => pts_ex (ht s H C cl fp)) (fun s H C cl fp => pe_ex (he s H C cl fp)) hs) fun σ H Q h => lc_ok hv h
theorem s_setLcQ {k : Nat} {y : Str} {py : Pos} {ws : List Nat} {u : Tg} {c : EvT} {e a : Ev} {elt tg iter : Expr} {ifs : List Expr} {scope : Scope} {own : List (Str × Nat)} {spos : Pos} {q : Addr × Obj} (hot : Hot1 X.A q) (hq : q ∈ X.pn) (hN : X.N.Nodup) (hy : X.N[k]? = some y) (hyl : X.env.scope.names.lookup y = some .local)
    (hsw : swapsWith (.ListComp elt [⟨tg, iter, ifs, 0⟩] scope pos) (some (.Name y py)) spos.line X.env = pure true) (ha : PED X B W iter a) (ok : BlkOk X.N X.env.scope scope own) (hv : ∀ j ∈ ws, j ∈ own.map (·.2))
    (hg : ∀ (s : Shared) (H : Hp) (C : Addr) (cl : List (Str × Addr)) (fp : List Addr) H0 F0, PGD (HT2.blkQ q X s H scope (compEnvC scope cl C X.env) fp) (B.rb H0 F0) tg ws u)
    (ht : ∀ (s : Shared) (H : Hp) (C : Addr) (cl : List (Str × Addr)) (fp : List Addr) H0 F0, PTsD (HT2.blkQ q X s H scope (compEnvC scope cl C X.env) fp) (B.rb H0 F0) ifs c)
    (he : ∀ (s : Shared) (H : Hp) (C : Addr) (cl : List (Str × Addr)) (fp : List Addr) H0 F0, PED (HT2.blkQ q X s H scope (compEnvC scope cl C X.env) fp) (B.rb H0 F0) WNo elt e) (hs : ∀ x, foldedSetIterable iter X.env x = pure x := by intro _; rfl) :
    PSD X B W (.Assign [.Name y py] (.ListComp elt [⟨tg, iter, ifs, 0⟩] scope pos) spos) (sSet k (eLc (own.map (·.2)) u c e (iSeqL a))) :=
  ps_wk (HT2.ps_setQ hot hq hN hy hyl hsw (i_seqQ ha) ok (fun s H C cl fp => pg_ex (hg s H C cl fp)) (fun s H C cl fp => pts_ex (ht s H C cl fp)) (fun s H C cl fp => pe_ex (he s H C cl fp)) hs) fun D σ H h => by
    obtain ⟨F, ρ, S, h⟩ := h
    refine lc_ok hv ?_
    refine bdS_ok S h fun r ρ1 F1 H1 x e1 S1 R1 h1 => ?_
    cases e : setR ρ1 k r with
    | none => simp only [e] at h1; exact h1.elim
    | some ρ2 =>
      simp only [e] at h1
      obtain ⟨F2, e2, S2⟩ := setR_ok S1 R1 e
      exact h1 F2 _ H1 e2 S2
end
end Pd
end
section
set_option Elab.async false
set_option linter.all false
set_option maxRecDepth 100000
set_option maxHeartbeats 4000000
namespace Pd
open PySem L2 PyProof.Rows L2H PySem.Spec

theorem takesNo {X : Cx} : L2N.Takes X WNo := fun u s' x => by
  obtain ⟨_, _, _, _, _, _, _, _, _, _, _, _, _, _, _, _, z⟩ := x
  exact z.elim
abbrev mkB (K : Frag) (kt : Bool) (tb : Addr → Prop) (ec : String → Addr) (H0 F0 : Hp) (io : Nat → Option Addr) (hx : Addr) (hn : String) : Bs := ⟨⟨K, kt, tb⟩, H0, F0, io, ec, hx, hn⟩
section
variable {P : Program} {w : World} {K : Frag} {kt : Bool} {tb : Addr → Prop} {ec : String → Addr} {mg : Str → Option Value} {base : Heap} {k : Nat} {f : Addr} {fd : FuncData} {x qual : Str} {st : Stmt} {N ps : List Str} {ms : List Bool} {b : Sv}
/-- a def of the text, by data -/
theorem fnF (Fu : Fun K x qual st f fd) (S : FnScope N ps (defScope st)) (hm : ms.length = ps.length) (hN : ps.length ≤ N.length)
    (hb : ∀ (cdv : Value) (A : Around) (outer : List PySem.Env) (s : Shared) (H : Hp) (E : XK) (H0 F0 : Hp) (io : Nat → Option Addr) (hx : Addr) (hn : String), Room k (A.deeper (envOfC qual (defScope st) s.heap.objs.size f cdv)) →
      L2N.Takes (cxOf (L2N.CX P w) P w K mg base N qual (defScope st) f cdv A outer s H E) (fun cls d _ H => E cls d H) →
      PassesOwn (model P w) (A.deeper (envOfC qual (defScope st) s.heap.objs.size f cdv)) (envOfC qual (defScope st) s.heap.objs.size f cdv) (cxOf (L2N.CX P w) P w K mg base N qual (defScope st) f cdv A outer s H E).xe →
      PSsD (cxOf (L2N.CX P w) P w K mg base N qual (defScope st) f cdv A outer s H E) (mkB K kt tb ec H0 F0 io hx hn) (fun cls d _ H => E cls d H) (defBody st) b) :
    FnOk P w K mg base (L2N.CX P w) (k + 1) f fd ps (spD ⟨K, kt, tb⟩ ec ms (toFn N.length ms b)) := by
  obtain ⟨oc, od, kV, doc, pm, an, cdv, ct, osl, rfl, lk, hcd⟩ := Fu.ex
  refine fnD lk hcd S hm hN fun A outer s H E B hr hc he => ?_
  obtain ⟨c, H0, F0, io, ec', hx, hn⟩ := B
  subst hc
  subst he
  exact hb cdv A outer s H E H0 F0 io hx hn hr (L2N.takes_of rfl rfl rfl rfl) PassesOwn.leaving
/-- a def that looks at the handled error -/
theorem fnXF (Fu : Fun K x qual st f fd) (S : FnScope N ps (defScope st)) (hm : ps.length = 1) (hN : 1 ≤ N.length)
    (hb : ∀ (cdv : Value) (A : Around) (outer : List PySem.Env) (s : Shared) (H : Hp) (E : XK) (p q : Addr × Obj) (H0 F0 : Hp) (io : Nat → Option Addr) (hx : Addr) (hn : String), RoomH k (A.deeper (envOfC qual (defScope st) s.heap.objs.size f cdv)) →
      HotB (cxH (L2N.CX P w) P w K mg base N qual (defScope st) f cdv A outer s H E p) (mkB K kt tb ec H0 F0 io hx hn) →
      q ∈ (cxH (L2N.CX P w) P w K mg base N qual (defScope st) f cdv A outer s H E p).pn → Hot1 (A.deeper (envOfC qual (defScope st) s.heap.objs.size f cdv)) q →
      PSsD (cxH (L2N.CX P w) P w K mg base N qual (defScope st) f cdv A outer s H E p) (mkB K kt tb ec H0 F0 io hx hn) (fun cls d _ H => E cls d H) (defBody st) b) :
    FnX P w K mg base (L2N.CX P w) (k + 1) f fd ps (spX ⟨K, kt, tb⟩ ec (toFnX N.length b)) := by
  obtain ⟨oc, od, kV, doc, pm, an, cdv, ct, osl, rfl, lk, hcd⟩ := Fu.ex
  refine fnX lk hcd S hm hN fun A outer s H E p B hr hc he hh hq => ?_
  obtain ⟨c, H0, F0, io, ec', hx, hn⟩ := B
  subst hc
  subst he
  obtain ⟨p0, oe, h1, h2⟩ := hq
  exact hb cdv A outer s H E p (p0, oe) H0 F0 io hx hn hr hh h1 h2
/-- what a law's def promises of its script -/
def spLaw (K : Frag) (n : Nat) : Sp := fun vs H Q _ => ∃ (a : Addr) (ns : List Int), vs = [.ref a] ∧ SqL K H a (ns.map V.int) ∧ ns.length ≤ n ∧ (∀ z ∈ ns, Builtin.Int.intBits z ≤ 1048576) ∧ ∀ H', Q (.bl true) H'
/-- the same where tables are kept -/
def spLawT (K : Frag) (n : Nat) (tb : Addr → Prop) : Sp := fun vs H Q _ => (∀ q, tb q → GxR.TabG H q) ∧ ∃ (a : Addr) (ns : List Int), vs = [.ref a] ∧ SqL K H a (ns.map V.int) ∧ ns.length ≤ n ∧ (∀ z ∈ ns, Builtin.Int.intBits z ≤ 1048576) ∧ ∀ H', Q (.bl true) H'
theorem lawOk {fn : Fn} {n : Nat} (Fo : FnOk P w K mg base (L2N.CX P w) k f fd ps (spD ⟨K, kt, fun _ => False⟩ ec [false] fn)) (h : ∀ ns : List Int, ns.length ≤ n → (∀ z ∈ ns, Builtin.Int.intBits z ≤ 1048576) → fn [scrD (ns.map PyData.int)] = .ret (.bool true) []) : FnOk P w K mg base (L2N.CX P w) k f fd ps (spLaw K n) :=
  Fo.imp fun vs H Q E ⟨a, ns, e, hS, hl, hb, q⟩ => by
    subst e
    refine ⟨H, [scrD (ns.map PyData.int)], [], Ex.refl H, ⟨fun _ z => z.elim, fun _ z => z.elim⟩, .val (.scr hS (Reps.ints ns)) .nil, ?_⟩
    rw [h ns hl hb]
    intro F' H' v A r
    cases r
    exact q H'
theorem lawOkT {fn : Fn} {n : Nat} (Fo : FnOk P w K mg base (L2N.CX P w) k f fd ps (spD ⟨K, kt, tb⟩ ec [false] fn)) (h : ∀ ns : List Int, ns.length ≤ n → (∀ z ∈ ns, Builtin.Int.intBits z ≤ 1048576) → fn [scrD (ns.map PyData.int)] = .ret (.bool true) []) : FnOk P w K mg base (L2N.CX P w) k f fd ps (spLawT K n tb) :=
  Fo.imp fun vs H Q E ⟨tk, a, ns, e, hS, hl, hb, q⟩ => by
    subst e
    have tk' : TabOk ⟨K, kt, tb⟩ H := tk
    obtain ⟨F, tf, eq⟩ : ∃ F : Hp, (∀ q, tb q → F q = none) ∧ ∀ q, ¬ tb q → F q = H q :=
      ⟨fun q => @ite _ (tb q) (Classical.propDecidable _) none (H q), fun q z => @if_pos _ (Classical.propDecidable _) z _ _ _, fun q z => @if_neg _ (Classical.propDecidable _) z _ _ _⟩
    have ex : Ex F H := by
      refine ⟨fun p u r => ?_, fun p u k r => ?_⟩
      · by_cases z : tb p
        · unfold Rd at r
          rw [tf p z] at r
          simp at r
        · unfold Rd at r ⊢
          rw [eq p z] at r
          exact r
      · by_cases z : tb p
        · rw [tf p z] at r
          cases r
        · rw [eq p z] at r
          exact r
    have hS' : SqL K F a (ns.map V.int) := by
      rcases hS with r | r
      · refine .inl ?_
        have nt : ¬ tb a := by
          unfold Rd at r
          rcases r with r | ⟨o, r⟩
          · exact tk'.ne r fun _ z => by cases z
          · exact tk'.ne r fun _ z => by cases z
        unfold Rd at r ⊢
        rw [eq a nt]
        exact r
      · exact .inr r
    refine ⟨F, [scrD (ns.map PyData.int)], [], ex, ⟨tk', tf⟩, .val (.scr hS' (Reps.ints ns)) .nil, ?_⟩
    rw [h ns hl hb]
    intro F' H' v A r
    cases r
    exact q H'
end
end Pd
end
section
set_option Elab.async false
set_option linter.all false
set_option maxRecDepth 100000
set_option maxHeartbeats 4000000
namespace Pd
open PySem L2 PyProof.Rows L2H PySem.Spec
def fAddI : D → D → Option Res
  | .int i, .int j => some (.v (.int (i + j)))
  | _, _ => none
theorem D_addI {c : Ct} : OpD c (rI0 fun i j => .int (i + j)) fAddI := by
  intro F H d1 d2 x y res Q e h1 h2 hf
  cases d1 <;> cases d2 <;> cases hf
  exact ⟨sv, fun k => ⟨_, _, h1.int, h2.int, k.here e (.int _)⟩⟩
theorem hu64 {k : Nat} {A : Around} (hr : RoomH k A) : A.units + 64 < cLine := by have := hr.un; omega
theorem roomH_le {j k : Nat} {A A' : Around} (hr : Room k A) (h : j ≤ k) (h1 : A'.depth = A.depth := by rfl) (h2 : A'.units = A.units := by rfl) : RoomH j A' := ⟨by have := hr.dp; omega, by have := hr.un; omega⟩
theorem kit_sub {K : Frag} {C E : Addr} {b : Bool} (h0 : PySem.W.subIn K (.ref C) (.ref C) = some true) (h : PySem.W.subIn K (.ref C) (.ref E) = some b) (hd : PySem.W.hasDictIn K E = true) (ht : PySem.W.typeIn K (.ref E) = some (.type "type")) : PySem.W.kitOne K (.ref C) (.ref E) = some b := by
  obtain ⟨cd, hc, _⟩ := PySem.W.any_some hd
  unfold PySem.W.kitOne
  by_cases e : C = E
  · subst e
    rw [h0] at h
    rw [if_pos (beq_self_eq_true _)]
    exact h
  · rw [if_neg (fun z => e (Value.ref.inj (beq_iff_eq.mp z)))]
    unfold PySem.W.kitCls
    simp only [hc, ht, Option.isSome_some, beq_self_eq_true, Bool.and_self, if_true]
    exact h
end Pd
end
section
set_option Elab.async false
set_option linter.all false
set_option maxRecDepth 100000
set_option maxHeartbeats 4000000
/-! reading the evaluator: each form at a state -/
namespace Pd
open PySem L2
variable {ρ ρ1 : Env} {r : Res} {k k2 : Bool} {c : String} {rs : List Res} {ds : List D} {i j n : Nat} {a b e : Ev} {t s : EvT} {ta : EvA} {p l u : EvP} {d : D}
@[simp] theorem y_bd1 {q : Res → Env → Out} : (Out.ok r ρ).bd q = q r ρ := rfl
@[simp] theorem y_bd2 {q : Res → Env → Out} : (Out.ex c ρ).bd q = .ex c ρ := rfl
@[simp] theorem y_bd3 {q : Res → Env → Out} : Out.bad.bd q = .bad := rfl
@[simp] theorem y_bt1 {q : Bool → Env → OutT} : (OutT.ok k ρ).bd q = q k ρ := rfl
@[simp] theorem y_bt2 {q : Bool → Env → OutT} : (OutT.ex c ρ).bd q = .ex c ρ := rfl
@[simp] theorem y_bt3 {q : Bool → Env → OutT} : OutT.bad.bd q = .bad := rfl
@[simp] theorem y_bdT1 {q : Res → Env → OutT} : (Out.ok r ρ).bdT q = q r ρ := rfl
@[simp] theorem y_bdT2 {q : Res → Env → OutT} : (Out.ex c ρ).bdT q = .ex c ρ := rfl
@[simp] theorem y_bdT3 {q : Res → Env → OutT} : Out.bad.bdT q = .bad := rfl
@[simp] theorem y_bdE1 {q : Bool → Env → Out} : (OutT.ok k ρ).bdE q = q k ρ := rfl
@[simp] theorem y_bdE2 {q : Bool → Env → Out} : (OutT.ex c ρ).bdE q = .ex c ρ := rfl
@[simp] theorem y_bdE3 {q : Bool → Env → Out} : OutT.bad.bdE q = .bad := rfl
@[simp] theorem y_ba1 {q : List Res → Env → OutA} : (OutA.ok rs ρ).bd q = q rs ρ := rfl
@[simp] theorem y_ba2 {q : List Res → Env → OutA} : (OutA.ex c ρ).bd q = .ex c ρ := rfl
@[simp] theorem y_ba3 {q : List Res → Env → OutA} : OutA.bad.bd q = .bad := rfl
@[simp] theorem y_bdA1 {q : Res → Env → OutA} : (Out.ok r ρ).bdA q = q r ρ := rfl
@[simp] theorem y_bdA2 {q : Res → Env → OutA} : (Out.ex c ρ).bdA q = .ex c ρ := rfl
@[simp] theorem y_bdA3 {q : Res → Env → OutA} : Out.bad.bdA q = .bad := rfl
@[simp] theorem y_baE1 {q : List Res → Env → Out} : (OutA.ok rs ρ).bdE q = q rs ρ := rfl
@[simp] theorem y_baE2 {q : List Res → Env → Out} : (OutA.ex c ρ).bdE q = .ex c ρ := rfl
@[simp] theorem y_baE3 {q : List Res → Env → Out} : OutA.bad.bdE q = .bad := rfl
@[simp] theorem y_bdS1 {q : Res → Env → SOut} : (Out.ok r ρ).bdS q = q r ρ := rfl
@[simp] theorem y_bdS2 {q : Res → Env → SOut} : (Out.ex c ρ).bdS q = .ex c ρ := rfl
@[simp] theorem y_bdS3 {q : Res → Env → SOut} : Out.bad.bdS q = .bad := rfl
@[simp] theorem y_btS1 {q : Bool → Env → SOut} : (OutT.ok k ρ).bdS q = q k ρ := rfl
@[simp] theorem y_btS2 {q : Bool → Env → SOut} : (OutT.ex c ρ).bdS q = .ex c ρ := rfl
@[simp] theorem y_btS3 {q : Bool → Env → SOut} : OutT.bad.bdS q = .bad := rfl
@[simp] theorem y_bdI1 {q : Res → Env → OutI} : (Out.ok r ρ).bdI q = q r ρ := rfl
@[simp] theorem y_bdI2 {q : Res → Env → OutI} : (Out.ex c ρ).bdI q = .ex c ρ := rfl
@[simp] theorem y_baI1 {q : List Res → Env → OutI} : (OutA.ok rs ρ).bdI q = q rs ρ := rfl
@[simp] theorem y_baI2 {q : List Res → Env → OutI} : (OutA.ex c ρ).bdI q = .ex c ρ := rfl
@[simp] theorem y_biS1 {q : List D → Env → SOut} : (OutI.ok ds ρ).bdS q = q ds ρ := rfl
@[simp] theorem y_biS2 {q : List D → Env → SOut} : (OutI.ex c ρ).bdS q = .ex c ρ := rfl
@[simp] theorem y_biE1 {q : List D → Env → Out} : (OutI.ok ds ρ).bdE q = q ds ρ := rfl
@[simp] theorem y_biE2 {q : List D → Env → Out} : (OutI.ex c ρ).bdE q = .ex c ρ := rfl
@[simp] theorem y_bp1 {q : Option Int → Env → Out} {o : Option Int} : (OutP.ok o ρ).bd q = q o ρ := rfl
@[simp] theorem y_bp2 {q : Option Int → Env → Out} : (OutP.ex c ρ).bd q = .ex c ρ := rfl
@[simp] theorem y_look1 : look ρ (.v d) = some d := rfl
@[simp] theorem y_look2 : look ρ (.f d) = some d := rfl
@[simp] theorem y_look3 : look ρ (.s i) = (match ρ[i]? with
    | some (.o d) => some d
    | some (.b d) => some d
    | some (.v d) => some d
    | _ => none) := rfl
@[simp] theorem y_hold1 : (Res.v d).hold = .v d := rfl
@[simp] theorem y_hold2 : (Res.f d).hold = .v d := rfl
@[simp] theorem y_hold3 : (Res.s i).hold = .s i := rfl
@[simp] theorem y_var : eVar i ρ = (match ρ[i]? with
  | some (.v d) => .ok (.v d) ρ
  | some (.o _) => .ok (.s i) ρ
  | some (.b _) => .ok (.s i) ρ
  | _ => .bad) := rfl
@[simp] theorem y_c : eC d ρ = .ok (.v d) ρ := rfl
@[simp] theorem y_ret1 {x : Res} : retOp ρ (some x) = .ok x ρ := rfl
@[simp] theorem y_ret2 : retOp ρ none = .bad := rfl
@[simp] theorem y_op {f : D → D → Option Res} : eOp f a b ρ = (a ρ).bd fun r1 ρ1 => (b ρ1).bd fun r2 ρ2 => match look ρ2 r1, look ρ2 r2 with
  | some d1, some d2 => retOp ρ2 (f d1 d2)
  | _, _ => .bad := rfl
@[simp] theorem y_opT {f : D → D → Option Bool} : eOpT f a b ρ = (a ρ).bdT fun r1 ρ1 => (b ρ1).bdT fun r2 ρ2 => match look ρ2 r1, look ρ2 r2 with
  | some d1, some d2 => match f d1 d2 with
    | some k => .ok k ρ2
    | none => .bad
  | _, _ => .bad := rfl
@[simp] theorem y_boolRes {f : D → D → Option Bool} {x y : D} : boolRes f x y = (f x y).map fun b => .v (.bool b) := rfl
@[simp] theorem y_B : eB a ρ = (a ρ).bdT fun r ρ1 => match look ρ1 r with
  | some (.bool k) => .ok k ρ1
  | _ => .bad := rfl
@[simp] theorem y_and : eAnd t s ρ = (t ρ).bd fun k ρ1 => match k with
  | true => s ρ1
  | false => .ok false ρ1 := rfl
@[simp] theorem y_or : eOr t s ρ = (t ρ).bd fun k ρ1 => match k with
  | true => .ok true ρ1
  | false => s ρ1 := rfl
@[simp] theorem y_not : eNot t ρ = (t ρ).bd fun k ρ1 => .ok (!k) ρ1 := rfl
@[simp] theorem y_T : eT t ρ = (t ρ).bdE fun k ρ1 => .ok (.v (.bool k)) ρ1 := rfl
@[simp] theorem y_if : eIf t a b ρ = (t ρ).bdE fun k ρ1 => match k with
  | true => a ρ1
  | false => b ρ1 := rfl
@[simp] theorem y_andV : eAndV a b ρ = (a ρ).bd fun r ρ1 => match look ρ1 r with
  | some (.bool true) => b ρ1
  | some (.bool false) => .ok (.v (.bool false)) ρ1
  | _ => .bad := rfl
@[simp] theorem y_orV : eOrV a b ρ = (a ρ).bd fun r ρ1 => match look ρ1 r with
  | some (.bool true) => .ok (.v (.bool true)) ρ1
  | some (.bool false) => b ρ1
  | _ => .bad := rfl
@[simp] theorem y_notV : eNotV a ρ = (a ρ).bd fun r ρ1 => match look ρ1 r with
  | some (.bool k) => .ok (.v (.bool (!k))) ρ1
  | _ => .bad := rfl
@[simp] theorem y_chain {f g : D → D → Option Bool} : eChain f g a b e ρ = (a ρ).bdT fun r1 ρ1 => (b ρ1).bdT fun r2 ρ2 => match look ρ2 r1, look ρ2 r2 with
  | some d1, some d2 => match f d1 d2 with
    | some true => (e ρ2).bdT fun r3 ρ3 => match look ρ3 r2, look ρ3 r3 with
      | some e2, some d3 => match g e2 d3 with
        | some k => .ok k ρ3
        | none => .bad
      | _, _ => .bad
    | some false => .ok false ρ2
    | none => .bad
  | _, _ => .bad := rfl
@[simp] theorem y_e1 {f : D → Option Res} : e1 f a ρ = (a ρ).bd fun r1 ρ1 => match look ρ1 r1 with
  | some d1 => retOp ρ1 (f d1)
  | _ => .bad := rfl
@[simp] theorem y_pNo : pNo ρ = .ok none ρ := rfl
@[simp] theorem y_pAt : pAt a ρ = (match a ρ with
  | .ok r ρ1 => match look ρ1 r with
    | some (.int i) => .ok (some i) ρ1
    | _ => .bad
  | .ex c ρ1 => .ex c ρ1
  | .bad => .bad) := rfl
@[simp] theorem y_sl : eSl a l u ρ = (a ρ).bd fun r ρ1 => (l ρ1).bd fun l ρ2 => (u ρ2).bd fun u ρ3 => match look ρ3 r with
  | some d => retOp ρ3 (fSl d l u)
  | none => .bad := rfl
@[simp] theorem y_aNil : aNil ρ = .ok [] ρ := rfl
@[simp] theorem y_aCons : aCons a ta ρ = (a ρ).bdA fun r1 ρ1 => (ta ρ1).bd fun rs ρ2 => .ok (r1.hold :: rs) ρ2 := rfl
@[simp] theorem y_looks1 : looks ρ [] = some [] := rfl
@[simp] theorem y_looks2 : looks ρ (r :: rs) = (match look ρ r, looks ρ rs with
  | some d, some ds => some (d :: ds)
  | _, _ => none) := rfl
@[simp] theorem y_frz1 : frzR ρ (.v d) = some (d, ρ) := rfl
@[simp] theorem y_frz2 : frzR ρ (.f d) = some (d, ρ) := rfl
@[simp] theorem y_frz3 : frzR ρ (.s i) = (match ρ[i]? with
    | some (.o d) => some (d, ρ.set i (.v d))
    | some (.v d) => some (d, ρ)
    | _ => none) := rfl
@[simp] theorem y_frzs1 : frzs ρ [] = some ([], ρ) := rfl
@[simp] theorem y_frzs2 : frzs ρ (r :: rs) = (match frzR ρ r with
  | some (d, ρ1) => match frzs ρ1 rs with
    | some (ds, ρ2) => some (d :: ds, ρ2)
    | none => none
  | none => none) := rfl
@[simp] theorem y_tup : eTup ta ρ = (ta ρ).bdE fun rs ρ1 => match frzs ρ1 rs with
  | some (ds, ρ2) => if lineOk ds.length then .ok (.v (.tuple ds)) ρ2 else .bad
  | none => .bad := rfl
@[simp] theorem y_lst : eLst ta ρ = (ta ρ).bdE fun rs ρ1 => match frzs ρ1 rs with
  | some (ds, ρ2) => if lineOk ds.length then .ok (.f (.list ds)) ρ2 else .bad
  | none => .bad := rfl
@[simp] theorem y_blt {f : List D → Option Res} : eBlt f ta ρ = (ta ρ).bdE fun rs ρ1 => match looks ρ1 rs with
  | some ds => retOp ρ1 (f ds)
  | none => .bad := rfl
@[simp] theorem y_call {f : Fn} : eCall n f ta ρ = (ta ρ).bdE fun rs ρ1 => match looks ρ1 rs with
  | some ds => if ds.length = n then endCall ρ1 rs (f ds) else .bad
  | none => .bad := rfl
@[simp] theorem y_end1 {os : List D} : endCall ρ rs (.ret d os) = (if scal d then .ok (.v d) ρ else match frzs ρ rs with
    | some (_, ρ2) => .ok (.v d) ρ2
    | none => .bad) := rfl
@[simp] theorem y_end2 {os : List D} : endCall ρ rs (.own d os) = (match frzs ρ rs with
    | some (_, ρ2) => .ok (.f d) ρ2
    | none => .bad) := rfl
@[simp] theorem y_end3 {os : List D} : endCall ρ rs (.ex c os) = .ex c ρ := rfl
@[simp] theorem y_end4 : endCall ρ rs .bad = .bad := rfl
@[simp] theorem y_scal1 : scal .none = true := rfl
@[simp] theorem y_scal2 : scal (.bool k) = true := rfl
@[simp] theorem y_scal3 {z : Int} : scal (.int z) = true := rfl
@[simp] theorem y_scal4 {z : Str} : scal (.str z) = true := rfl
@[simp] theorem y_scal5 : scal (.list ds) = false := rfl
@[simp] theorem y_scal6 : scal (.tuple ds) = false := rfl
@[simp] theorem y_pass1 : pass ρ [] [] = some ([], [], ρ) := rfl
@[simp] theorem y_pass2 {ms : List Bool} : pass ρ (false :: ms) (r :: rs) = (match frzR ρ r with
    | some (d, ρ1) => match pass ρ1 ms rs with
      | some (ds, is, ρ2) => some (d :: ds, is, ρ2)
      | none => none
    | none => none) := rfl
@[simp] theorem y_pass3 {ms : List Bool} : pass ρ (true :: ms) (.s i :: rs) = (match pass ρ ms rs with
    | some (ds, is, ρ2) => if i ∈ is then none else match mineAt ρ2 i with
      | some (_, d) => some (d :: ds, i :: is, ρ2)
      | none => none
    | none => none) := rfl
@[simp] theorem y_mine : mineAt ρ i = (match ρ[i]? with
  | some s => match s.mine with
    | some d => some (s, d)
    | none => none
  | none => none) := rfl
@[simp] theorem y_m1 : (Sl.o d).mine = some d := rfl
@[simp] theorem y_m2 : (Sl.b d).mine = some d := rfl
@[simp] theorem y_m3 : (Sl.v d).mine = none := rfl
@[simp] theorem y_m4 : Sl.u.mine = none := rfl
@[simp] theorem y_w1 {d' : D} : (Sl.o d).with d' = .o d' := rfl
@[simp] theorem y_w2 {d' : D} : (Sl.b d).with d' = .b d' := rfl
@[simp] theorem y_upd1 : updS ρ [] [] = ρ := rfl
@[simp] theorem y_upd2 {is : List Nat} : updS ρ (i :: is) (d :: ds) = updS (match ρ[i]? with
    | some s => ρ.set i (s.with d)
    | none => ρ) is ds := rfl
@[simp] theorem y_callM {ms : List Bool} {f : Fn} : eCallM ms f ta ρ = (ta ρ).bdE fun rs ρ1 => match pass ρ1 ms rs with
  | some (ds, is, ρ2) => match f ds with
    | .ret d os => .ok (.v d) (updS ρ2 is os)
    | .own d os => .ok (.f d) (updS ρ2 is os)
    | .ex c os => .ex c (updS ρ2 is os)
    | .bad => .bad
  | none => .bad := rfl
@[simp] theorem y_met {T : String} {f : D → List D → Option (D × D)} : eMet T i f ta ρ = (match mineAt ρ i with
  | some (_, d0) => if kindIs T d0 then (ta ρ).bdE fun rs ρ1 => match frzs ρ1 rs with
    | some (ds, ρ2) => match mineAt ρ2 i with
      | some (s, d) => match f d ds with
        | some (d', res) => .ok (.v res) (ρ2.set i (s.with d'))
        | none => .bad
      | none => .bad
    | none => .bad
    else .bad
  | none => .bad) := rfl
@[simp] theorem y_kind1 : kindIs "list" (.list ds) = true := rfl
@[simp] theorem y_isi {T : String} : fIsiV T d = (match kindOf d with
  | some a => if a = "dict" then none else some (.v (.bool (isT a T)))
  | none => none) := rfl
@[simp] theorem y_k1 : kindOf .none = some "NoneType" := rfl
@[simp] theorem y_k2 : kindOf (.bool k) = some "bool" := rfl
@[simp] theorem y_k3 {z : Int} : kindOf (.int z) = some "int" := rfl
@[simp] theorem y_k4 {z : Str} : kindOf (.str z) = some "str" := rfl
@[simp] theorem y_k5 : kindOf (.list ds) = some "list" := rfl
@[simp] theorem y_k6 : kindOf (.tuple ds) = some "tuple" := rfl
@[simp] theorem y_isT {x y : String} : isT x y = (x == y || (x == "bool" && y == "int")) := rfl
-- statements
variable {S R : Sv}
@[simp] theorem y_seq : sSeq S R ρ = (match S ρ with
  | .nx ρ1 => R ρ1
  | o => o) := rfl
@[simp] theorem y_nx : sNx ρ = .nx ρ := rfl
@[simp] theorem y_sret : sRet a ρ = (a ρ).bdS fun r ρ1 => .rt r ρ1 := rfl
@[simp] theorem y_sretN : sRetN ρ = .rt (.v .none) ρ := rfl
@[simp] theorem y_drop : sDrop a ρ = (a ρ).bdS fun _ ρ1 => .nx ρ1 := rfl
@[simp] theorem y_sif : sIf t S R ρ = (t ρ).bdS fun k ρ1 => match k with
  | true => S ρ1
  | false => R ρ1 := rfl
@[simp] theorem y_setR1 : setR ρ i (.v d) = some (ρ.set i (.v d)) := rfl
@[simp] theorem y_setR2 : setR ρ i (.f d) = some (ρ.set i (.o d)) := rfl
@[simp] theorem y_setR3 : setR ρ i (.s j) = (match frzR ρ (.s j) with
    | some (d, ρ') => some (ρ'.set i (.v d))
    | none => none) := rfl
@[simp] theorem y_sset : sSet i a ρ = (a ρ).bdS fun r ρ1 => match setR ρ1 i r with
  | some ρ2 => .nx ρ2
  | none => .bad := rfl
@[simp] theorem y_bk : sBk ρ = .bk ρ := rfl
@[simp] theorem y_ct : sCt ρ = .ct ρ := rfl
@[simp] theorem y_raise : sRaise c ρ = .ex c ρ := rfl
@[simp] theorem y_tgN : tgN i d ρ = some (ρ.set i (.v d)) := rfl
@[simp] theorem y_go1 : goT [] [] ρ = some ρ := rfl
@[simp] theorem y_go2 {g : Tg} {gs : List Tg} : goT (g :: gs) (d :: ds) ρ = (match g d ρ with
    | some ρ1 => goT gs ds ρ1
    | none => none) := rfl
@[simp] theorem y_tgT1 {gs : List Tg} : tgT gs (.tuple ds) ρ = goT gs ds ρ := rfl
@[simp] theorem y_tgT2 {gs : List Tg} : tgT gs (.list ds) ρ = goT gs ds ρ := rfl
@[simp] theorem y_tgQ {gs : List Tg} : tgQ gs (.tuple ds) ρ = goT gs ds ρ := rfl
@[simp] theorem y_unp {gs : List Tg} : sUnp gs a ρ = (a ρ).bdS fun r ρ1 => match look ρ1 r with
  | some d => match tgT gs d ρ1 with
    | some ρ2 => .nx ρ2
    | none => .bad
  | none => .bad := rfl
@[simp] theorem y_aug {f : D → D → Option Res} : sAug i f a ρ = (match ρ[i]? with
  | some (.v d0) => (a ρ).bdS fun r ρ1 => match look ρ1 r with
    | some d1 => match f d0 d1 with
      | some (.v d2) => .nx (ρ1.set i (.v d2))
      | _ => .bad
    | none => .bad
  | _ => .bad) := rfl
@[simp] theorem y_put {z : Bool} : sPut z i b a ρ = (a ρ).bdS fun r ρ1 => match mineAt ρ1 i with
  | some _ => (b ρ1).bdS fun r2 ρ2 => match look ρ2 r2, frzR ρ2 r.hold with
    | some k, some (y, ρ3) => match mineAt ρ3 i with
      | some (s, d) => match fPut z d k y with
        | some d' => .nx (ρ3.set i (s.with d'))
        | none => .bad
      | none => .bad
    | _, _ => .bad
  | none => .bad := rfl
@[simp] theorem y_own1 : aOwn [] ρ = .ok [] ρ := rfl
@[simp] theorem y_own2 {es : List Ev} : aOwn (a :: es) ρ = (a ρ).bdA fun r ρ1 => (aOwn es ρ1).bd fun rs ρ2 => .ok (r :: rs) ρ2 := rfl
@[simp] theorem y_frzF1 : frzF ρ [] = some ([], ρ) := rfl
@[simp] theorem y_frzF2 : frzF ρ (.v d :: rs) = (match frzF ρ rs with
    | some (qs, ρ2) => some (.v d :: qs, ρ2)
    | none => none) := rfl
@[simp] theorem y_frzF3 : frzF ρ (.f d :: rs) = (match frzF ρ rs with
    | some (qs, ρ2) => some (.f d :: qs, ρ2)
    | none => none) := rfl
@[simp] theorem y_frzF4 : frzF ρ (.s i :: rs) = (match frzR ρ (.s i) with
    | some (d, ρ1) => match frzF ρ1 rs with
      | some (qs, ρ2) => some (.v d :: qs, ρ2)
      | none => none
    | none => none) := rfl
@[simp] theorem y_putF1 : putF ρ [] [] = some ρ := rfl
@[simp] theorem y_putF2 {is : List Nat} : putF ρ (i :: is) (.v d :: rs) = putF (ρ.set i (.v d)) is rs := rfl
@[simp] theorem y_putF3 {is : List Nat} : putF ρ (i :: is) (.f d :: rs) = putF (ρ.set i (.o d)) is rs := rfl
@[simp] theorem y_par {is : List Nat} {es : List Ev} : sPar is es ρ = (match aOwn es ρ with
  | .ok rs ρ1 => match frzF ρ1 rs with
    | some (qs, ρ2) => match putF ρ2 is qs with
      | some ρ3 => .nx ρ3
      | none => .bad
    | none => .bad
  | .ex c ρ1 => .ex c ρ1
  | .bad => .bad) := rfl
@[simp] theorem y_for {it : EvI} {g : Tg} : sFor it g S ρ = (it ρ).bdS fun ds ρ1 => forF g S ds ρ1 := rfl
@[simp] theorem y_lc {vs : List Nat} {g : Tg} {it : EvI} : eLc vs g t a it ρ = (it ρ).bdE fun ds ρ1 => if lineOk ds.length then match compF vs g t a ds (wipeE ρ1 vs) with
  | some (rs, ρ2) => .ok (.f (.list rs)) (unwipe ρ1 ρ2 vs)
  | none => .bad
  else .bad := rfl
@[simp] theorem y_seqI : iSeq a ρ = (a ρ).bdI fun r ρ1 => match frzR ρ1 r with
  | some (.list ds, ρ2) => .ok ds ρ2
  | some (.tuple ds, ρ2) => .ok ds ρ2
  | some (.str s, ρ2) => .ok (signs s) ρ2
  | some (d, ρ2) => match scrOf d with
    | some ds => .ok ds ρ2
    | none => .bad
  | none => .bad := rfl
@[simp] theorem y_seqL : iSeqL a ρ = (a ρ).bdI fun r ρ1 => match frzR ρ1 r with
  | some (.list ds, ρ2) => .ok ds ρ2
  | _ => .bad := rfl
@[simp] theorem y_rng {f : List D → Option (List D)} : iRange f ta ρ = (ta ρ).bdI fun rs ρ1 => match looks ρ1 rs with
  | some ds => match f ds with
    | some es => .ok es ρ1
    | none => .bad
  | none => .bad := rfl
@[simp] theorem y_tTrue : tTrue ρ = .ok true ρ := rfl
@[simp] theorem y_wipe1 : wipeE ρ [] = ρ := rfl
@[simp] theorem y_wipe2 {vs : List Nat} : wipeE ρ (i :: vs) = (wipeE ρ vs).set i .u := rfl
@[simp] theorem y_unw1 {ρ0 : Env} : unwipe ρ0 ρ [] = ρ := rfl
@[simp] theorem y_unw2 {ρ0 : Env} {vs : List Nat} : unwipe ρ0 ρ (i :: vs) = (unwipe ρ0 ρ vs).set i (backS ρ0[i]?) := rfl
@[simp] theorem y_back1 : backS (some (.v d)) = .v d := rfl
@[simp] theorem y_back2 : backS (some .u) = .u := rfl
@[simp] theorem y_back3 : backS (some (.o d)) = .u := rfl
-- operations on ints
variable {x y : Int}
@[simp] theorem y_add : fAdd (.int x) (.int y) = some (.v (.int (x + y))) := rfl
@[simp] theorem y_addI : fAddI (.int x) (.int y) = some (.v (.int (x + y))) := rfl
@[simp] theorem y_sub : fSub (.int x) (.int y) = some (.v (.int (x - y))) := rfl
@[simp] theorem y_mul : fMul (.int x) (.int y) = if mulFits x y then some (.v (.int (x * y))) else none := rfl
@[simp] theorem y_div : fDiv (.int x) (.int y) = if divOk y then some (.v (.int (x / y))) else if divN y then some (.v (.int (x.fdiv y))) else none := rfl
@[simp] theorem y_pow : fPow (.int x) (.int y) = if powOk x y then some (.v (.int (x ^ y.toNat))) else none := rfl
@[simp] theorem y_shl : fShl (.int x) (.int y) = if powOk x y then some (.v (.int (x * 2 ^ y.toNat))) else none := rfl
@[simp] theorem y_shr : fShr (.int x) (.int y) = if 0 ≤ y then some (.v (.int (x / 2 ^ y.toNat))) else none := rfl
@[simp] theorem y_xor : fXor (.int x) (.int y) = some (.v (.int (Builtin.bitXor x y))) := rfl
@[simp] theorem y_rep {k : Int} : fMul (.list ds) (.int k) = if manyOk k && lineOk (ds.length * k.toNat) then some (.f (.list (List.replicate k.toNat ds).flatten)) else none := rfl
@[simp] theorem y_cat {es : List D} : fAdd (.list ds) (.list es) = if lineOk (ds.length + es.length) then some (.f (.list (ds ++ es))) else none := rfl
@[simp] theorem y_catT {es : List D} : fAdd (.tuple ds) (.tuple es) = if lineOk (ds.length + es.length) then some (.v (.tuple (ds ++ es))) else none := rfl
@[simp] theorem y_mod : fMod (.int x) (.int y) = if 0 < y then some (.v (.int (x % y))) else if y ≠ 0 then some (.v (.int (x.fmod y))) else none := rfl
@[simp] theorem y_neg : fNeg (.int x) = some (.v (.int (-x))) := rfl
@[simp] theorem y_lt : fLt (.int x) (.int y) = some (decide (x < y)) := rfl
@[simp] theorem y_le : fLe (.int x) (.int y) = some (decide (x ≤ y)) := rfl
@[simp] theorem y_gt : fGt (.int x) (.int y) = some (decide (y < x)) := rfl
@[simp] theorem y_ge : fGe (.int x) (.int y) = some (decide (y ≤ x)) := rfl
theorem eqv_int : PyData.eqv (.int x) (.int y) = decide (x = y) := by
  unfold PyData.eqv
  by_cases h : x = y <;> simp [h]
@[simp] theorem y_eq : fEq (.int x) (.int y) = some (decide (x = y)) := by
  unfold fEq
  simp [fit, eqv_int]
@[simp] theorem y_ne : fNe (.int x) (.int y) = some (!decide (x = y)) := by
  unfold fNe
  simp [fit, eqv_int]
@[simp] theorem y_max : fMax [.int x, .int y] = some (.v (.int (if y > x then y else x))) := rfl
@[simp] theorem y_min : fMin [.int x, .int y] = some (.v (.int (if y < x then y else x))) := rfl
@[simp] theorem y_abs : fAbs [.int x] = some (.v (.int (if x < 0 then -x else x))) := rfl
@[simp] theorem y_int : fInt [.int x] = some (.v (.int x)) := rfl
@[simp] theorem y_len1 : fLen [.list ds] = some (.v (.int ds.length)) := rfl
@[simp] theorem y_len2 : fLen [.tuple ds] = some (.v (.int ds.length)) := rfl
@[simp] theorem y_ix1 {z : Bool} : fIx z (.list ds) (.int x) = (atI ds x).map .v := rfl
@[simp] theorem y_ix2 {z : Bool} : fIx z (.tuple ds) (.int x) = (atI ds x).map .v := rfl
@[simp] theorem lineOk_s {n : Nat} (h : n ≤ 16777216) : lineOk n = true := by
  unfold lineOk
  rw [sizeLine_eq]
  exact yes_iff.mpr h
theorem fits_l (h : -(2 ^ 64) < x ∧ x < 2 ^ 64) : mulFits x y = true := yes_iff.mpr (.inl h)
theorem fits_r (h : -(2 ^ 64) < y ∧ y < 2 ^ 64) : mulFits x y = true := yes_iff.mpr (.inr (.inl h))
@[simp] theorem fits_sl (h : -18446744073709551616 < x) (h' : x < 18446744073709551616) : mulFits x y = true := fits_l ⟨by omega, by omega⟩
@[simp] theorem fits_sr (h : -18446744073709551616 < y) (h' : y < 18446744073709551616) : mulFits x y = true := fits_r ⟨by omega, by omega⟩
@[simp] theorem divOk_s (h : 0 < y) (h' : y < 18446744073709551616) : divOk y = true := yes_iff.mpr ⟨h, by
  have : y.natAbs < 2 ^ 64 := by omega
  have h1 : y.natAbs.log2 < 64 := (Nat.log2_lt (by omega)).mpr this
  omega⟩
@[simp] theorem powOk_s (h : 0 ≤ y) (h' : y ≤ 1000000) (h2 : x.natAbs < 18446744073709551616) : powOk x y = true := yes_iff.mpr ⟨h, h', by omega⟩
@[simp] theorem manyOk_s (h : -9223372036854775808 ≤ x) (h' : x < 9223372036854775808) : manyOk x = true := yes_iff.mpr ⟨by omega, by omega⟩
@[simp] theorem y_try {kn km : String → Bool} {isE : String → String → Bool} {m : String} {S R : Sv} : sTry kn km isE m i S R ρ = (match S ρ with
  | .ex n ρ1 => if kn n && km m then (if isE n m then (if noE ρ1 then match R (ρ1.set i (.e n)) with
      | .nx ρ2 => if noE (ρ2.set i .u) then .nx (ρ2.set i .u) else .bad
      | .rt (.v d) ρ2 => if noE (ρ2.set i .u) then .rt (.v d) (ρ2.set i .u) else .bad
      | .bk ρ2 => if noE (ρ2.set i .u) then .bk (ρ2.set i .u) else .bad
      | .ct ρ2 => if noE (ρ2.set i .u) then .ct (ρ2.set i .u) else .bad
      | _ => .bad else .bad) else .ex n ρ1) else .bad
  | o => o) := rfl
@[simp] theorem y_callX {f : FnE} : eCallX i f ρ = (match ρ[i]? with
  | some (.e n) => match f n with
    | .ret d [] => .ok (.v d) ρ
    | _ => .bad
  | _ => .bad) := rfl
@[simp] theorem y_noE1 : noE [] = true := rfl
@[simp] theorem y_noE2 : noE (.u :: ρ) = noE ρ := rfl
@[simp] theorem y_noE3 : noE (.v d :: ρ) = noE ρ := rfl
@[simp] theorem y_noE4 : noE (.o d :: ρ) = noE ρ := rfl
@[simp] theorem y_noE5 : noE (.b d :: ρ) = noE ρ := rfl
/-! ### loops -/
theorem compF_map {α : Type} {vs : List Nat} {g : Tg} {c : EvT} {e : Ev} {ρ : Env} (w : α → D) (P : α → Bool) (h : α → D) : ∀ xs : List α,
    (∀ x ∈ xs, ∃ ρ1, g (w x) ρ = some ρ1 ∧ ∃ ρ2, c ρ1 = .ok (P x) ρ2 ∧ (P x = false → wipeE ρ2 vs = ρ) ∧ (P x = true → ∃ r ρ3 ρ4, e ρ2 = .ok r ρ3 ∧ frzR ρ3 r = some (h x, ρ4) ∧ wipeE ρ4 vs = ρ)) →
    compF vs g c e (xs.map w) ρ = some ((xs.filter P).map h, ρ)
  | [], _ => rfl
  | x :: xs, hx => by
    obtain ⟨ρ1, h1, ρ2, h2, h3, h4⟩ := hx x (List.mem_cons_self ..)
    have ih := compF_map w P h xs fun y hy => hx y (List.mem_cons_of_mem _ hy)
    rw [List.map_cons, compF, h1]
    simp only [h2]
    cases e : P x with
    | false =>
      simp only [h3 e]
      rw [ih, List.filter_cons, if_neg (by simp [e])]
    | true =>
      obtain ⟨r, ρ3, ρ4, k1, k2, k3⟩ := h4 e
      simp only [k1, k2, k3]
      rw [ih, List.filter_cons, if_pos e]
      rfl
/-- a loop that goes through -/
theorem forF_all {g : Tg} {S : Sv} {ds : List D} {ρ : Env} (I : Env → Prop) (h0 : I ρ) (h : ∀ d ∈ ds, ∀ ρ, I ρ → ∃ ρ1 ρ2, g d ρ = some ρ1 ∧ (S ρ1 = .nx ρ2 ∨ S ρ1 = .ct ρ2) ∧ I ρ2) : ∃ ρ', forF g S ds ρ = .nx ρ' ∧ I ρ' := by
  induction ds generalizing ρ with
  | nil => exact ⟨ρ, rfl, h0⟩
  | cons d ds ih =>
    obtain ⟨ρ1, ρ2, h1, h2, h3⟩ := h d (List.mem_cons_self ..) ρ h0
    obtain ⟨ρ', h4, h5⟩ := ih h3 fun d' hd => h d' (List.mem_cons_of_mem _ hd)
    refine ⟨ρ', ?_, h5⟩
    rw [forF, h1]
    rcases h2 with h2 | h2 <;> simp only [h2, h4]
/-- .. by the place -/
theorem forF_at {g : Tg} {S : Sv} {ds : List D} (I : Nat → Env → Prop) (h : ∀ i d, ds[i]? = some d → ∀ ρ, I i ρ → ∃ ρ1 ρ2, g d ρ = some ρ1 ∧ (S ρ1 = .nx ρ2 ∨ S ρ1 = .ct ρ2) ∧ I (i + 1) ρ2) {ρ : Env} (h0 : I 0 ρ) : ∃ ρ', forF g S ds ρ = .nx ρ' ∧ I ds.length ρ' := by
  induction ds generalizing I ρ with
  | nil => exact ⟨ρ, rfl, h0⟩
  | cons d ds ih =>
    obtain ⟨ρ1, ρ2, h1, h2, h3⟩ := h 0 d rfl ρ h0
    obtain ⟨ρ', h4, h5⟩ := ih (fun i => I (i + 1)) (fun i d' hd => h (i + 1) d' (by simpa using hd)) h3
    refine ⟨ρ', ?_, by simpa using h5⟩
    rw [forF, h1]
    rcases h2 with h2 | h2 <;> simp only [h2, h4]
/-- a while loop with a measure -/
theorem sWhile_inv {t : EvT} {S : Sv} (I : Nat → Env → Prop) (J : Env → Prop) (h : ∀ m ρ, I m ρ → (∃ ρ1, t ρ = .ok false ρ1 ∧ J ρ1) ∨ ∃ ρ1 ρ2 m', t ρ = .ok true ρ1 ∧ (S ρ1 = .nx ρ2 ∨ S ρ1 = .ct ρ2) ∧ m' < m ∧ I m' ρ2) : ∀ (m : Nat) (ρ : Env), I m ρ → ∃ ρ', sWhile t S ρ = .nx ρ' ∧ J ρ' := by
  intro m
  induction m using Nat.strongRecOn with
  | _ m ih =>
    intro ρ hi
    rw [sWhile_step]
    rcases h m ρ hi with ⟨ρ1, h1, h2⟩ | ⟨ρ1, ρ2, m', h1, h2, h3, h4⟩
    · exact ⟨ρ1, by rw [h1]; rfl, h2⟩
    · obtain ⟨ρ', h5, h6⟩ := ih m' h3 ρ2 h4
      refine ⟨ρ', ?_, h6⟩
      rw [h1]
      rcases h2 with h2 | h2 <;> simp only [y_btS1, h2, h5]
@[simp] theorem rng1_int {j : Int} (h : rngOk j = true) : rng1 [.int j] = some (rngD 0 j.toNat) := by simp [rng1, h]
@[simp] theorem rng2_int {i j : Int} (h : rngOk i = true) (h' : rngOk j = true) : rng2 [.int i, .int j] = some (rngD i (j - i).toNat) := by simp [rng2, h, h']
@[simp] theorem rngOk_s {j : Int} (h : -4611686018427387904 ≤ j) (h' : j < 4611686018427387904) : rngOk j = true := yes_iff.mpr ⟨by omega, by omega⟩
@[simp] theorem rngD_len {lo : Int} {n : Nat} : (rngD lo n).length = n := by simp [rngD]
theorem atI_k {xs : List D} {k : Nat} {d : D} (h : xs[k]? = some d) : atI xs (k : Int) = some d := by
  have hk := get_lt h
  unfold atI ixN
  rw [if_pos (by omega), if_pos (by omega)]
  simpa using h
theorem atI_i {xs : List D} {i : Int} {d : D} (h0 : 0 ≤ i) (h : xs[i.toNat]? = some d) : atI xs i = some d := by
  have := atI_k h
  rw [Int.toNat_of_nonneg h0] at this
  exact this
theorem atI_neg {xs : List D} {i : Int} {d : D} (h0 : i < 0) (h1 : -(xs.length : Int) ≤ i) (h : xs[(i + xs.length).toNat]? = some d) : atI xs i = some d := by
  unfold atI ixN
  rw [if_neg (by omega), if_pos h1]
  exact h
theorem cut_to {xs : List D} (k : Nat) : cutD xs none (some (k : Int)) = xs.take k := by
  unfold cutD
  rw [HT.sIx_none, HT.sIx_nat, List.drop_zero, Nat.sub_zero]
  by_cases h : k ≤ xs.length
  · rw [Nat.min_eq_left h]
  · rw [Nat.min_eq_right (by omega), List.take_length, List.take_of_length_le (by omega)]
theorem cut_from {xs : List D} (k : Nat) : cutD xs (some (k : Int)) none = xs.drop k := by
  unfold cutD
  rw [HT.sIx_none, HT.sIx_nat]
  by_cases h : k ≤ xs.length
  · rw [Nat.min_eq_left h, List.take_of_length_le (by rw [List.length_drop]; omega)]
  · rw [Nat.min_eq_right (by omega), Nat.sub_self, List.take_zero, List.drop_of_length_le (by omega)]
@[simp] theorem y_isN {d : D} : fIsN d .none = some (isNone d) := rfl
@[simp] theorem y_notN {d : D} : fNotN d .none = some (!isNone d) := rfl
@[simp] theorem y_isNone1 : isNone .none = true := rfl
@[simp] theorem y_isNone2 {z : Int} : isNone (.int z) = false := rfl
@[simp] theorem y_isNone3 {z : Str} : isNone (.str z) = false := rfl
@[simp] theorem y_isNone4 {ds : List D} : isNone (.tuple ds) = false := rfl
@[simp] theorem y_isNone5 {ds : List D} : isNone (.list ds) = false := rfl
@[simp] theorem y_isB {a b : Bool} : fIsN (.bool a) (.bool b) = some (a == b) := rfl
@[simp] theorem y_notB {a b : Bool} : fNotN (.bool a) (.bool b) = some (!(a == b)) := rfl
theorem fitAll_ints (n : Nat) : ∀ ns : List Int, fitAll n (ns.map PyData.int) = true
  | [] => by simp [fitAll]
  | _ :: r => by simp [fitAll, fit, fitAll_ints n r]
theorem fit_ints (ns : List Int) : fit 60 (.list (ns.map PyData.int)) = true := by
  rw [fit]
  exact fitAll_ints 59 ns
@[simp] theorem y_neNil : fNe (.list []) (.list []) = some false := by simp [fNe, fit, fitAll, PyData.eqv, PyData.eqvAll]
@[simp] theorem y_eqNil : fEq (.list []) (.list []) = some true := by simp [fEq, fit, fitAll, PyData.eqv, PyData.eqvAll]
theorem y_neInts (ns : List Int) : fNe (.list (ns.map PyData.int)) (.list []) = some (!ns.isEmpty) := by
  unfold fNe
  rw [fit_ints]
  cases ns <;> simp [fit, fitAll, PyData.eqv, PyData.eqvAll]
theorem y_eqInts (ns : List Int) : fEq (.list (ns.map PyData.int)) (.list []) = some ns.isEmpty := by
  unfold fEq
  rw [fit_ints]
  cases ns <;> simp [fit, fitAll, PyData.eqv, PyData.eqvAll]
theorem y_neNoneInt {z : Int} : fNe .none (.int z) = some true := by simp [fNe, fit, PyData.eqv]
end Pd
end
section
set_option Elab.async false
set_option linter.all false
set_option maxRecDepth 100000
set_option maxHeartbeats 4000000
/-! a, b, c = x, y, z where a name is a cell: stored from the left, own objects kept -/
namespace Pd
open PySem PySem.Spec PyProof.Rows L2
def tParC (n : Nat) (ta : TA) (t : TGs) : TS := fun D σ H => ta σ H fun vs H1 => vs.length = n ∧ t vs σ H1 D.nx
theorem ps_parC {X : Cx} {pos : Pos} {es xs : List Expr} {ta : TA} {t : TGs} {pt : Pos} {kt k2 pt2} {n : Nat} (hc : X.calm = true) (ha : PA X xs ta) (hg : PGs X es t)
    (hl : n ≤ sizeLine) (hn : (assignEach es X.env).length = n) (hst : (assignEach es X.env).findIdx? (·.1) = none)
    (hw : swappedStores [.Tuple es kt pt] (.Tuple xs k2 pt2) X.env = pure none)
    (hs : swapsWithSole [.Tuple es kt pt] (.Tuple xs k2 pt2) pos.line X.env = pure false)
    (h1 : (assignEach [.Tuple es kt pt] X.env).map (·.2) = [assign (.Tuple es kt pt) X.env]) :
    PS X (.Assign [.Tuple es kt pt] (.Tuple xs k2 pt2) pos) (tParC n ta t) := by
  refine ⟨fun pins s σ H D I h => ?_⟩
  refine wpAny_Assign_stores (Tuple_ (thn (ha.run _ pins s σ H _ I h) fun us s1 ⟨vs, H1, I1, r1, q1⟩ => ?_)) hs hw
  obtain ⟨q0, q1⟩ := q1
  have ul : us.length = n := by rw [← q0, r1.length]
  refine wpAny_newObj_type ?_ (by show us.length ≤ sizeLine; omega)
  have I2 : Inv X pins σ H1 { s1 with heap := s1.heap.push { cls := .type "tuple", data := .seq us.toArray } } := I1.kept (t' := s1.toks) fun b o e => Heap.get?_push_of_some _ e
  rw [h1]
  show wpAny (model X.prog X.w) X.A (assign (.Tuple es kt pt) X.env (.ref s1.heap.objs.size)) _ _ _
  refine assign_Tuple_tuple (I.ok.hd hc) (IsTup.new s1.heap _) (by rw [hn]; simp [ul]) hst fun h' hx' => ?_
  have I3 := I2.kept (h' := h') (t' := s1.toks) fun b o e => hx' b o (Nat.ne_of_lt (Heap.lt_size e)) e
  refine thn (hg.run pins _ σ H1 vs _ _ I3 (by simpa using r1) q1) fun _ s2 q => q
def gNs : List Nat → TGs
  | [] => gNil
  | i :: is => gCons (gName i) (gNs is)
theorem gNs_ok : ∀ {is : List Nat} {vs : List V} {σ : L2.St} {H : Hp} {Q : L2.St → Hp → Prop}, is.length = vs.length → Q (setAll σ is vs) H → gNs is vs σ H Q
  | [], [], σ, H, Q, _, q => ⟨rfl, q⟩
  | [], _ :: _, _, _, _, h, _ => by simp at h
  | _ :: _, [], _, _, _, h, _ => by simp at h
  | i :: is, v :: vs, σ, H, Q, h, q => ⟨v, vs, rfl, gNs_ok (by simpa using h) q⟩
section
variable {X : Cx} {B : Bs} {W : WX} {pos : Pos} {es xs : List Expr} {as : List Ev} {pt : Pos} {kt k2 : Nat} {pt2 : Pos} {is : List Nat}
theorem gn_nil : PGs X [] (gNs []) := pgs_nil
theorem gn_cons {i : Nat} {nm : Str} {p : Pos} (hN : X.N.Nodup) (hi : X.N[i]? = some nm) (hx : Loc X.env.scope nm) (h : PGs X es (gNs is)) (hf : X.fn nm = true ∨ X.env.scope.names.lookup nm = some .local := by first | exact .inl rfl | exact .inr rfl | assumption)
    (hs : (assignEach (.Name nm p :: es) X.env).map (·.2) = assign (.Name nm p) X.env :: (assignEach es X.env).map (·.2) := by rfl) : PGs X (.Name nm p :: es) (gNs (i :: is)) := pgs_cons (pg_name hN hi hx hf) h hs
theorem s_parC (hc : X.calm = true) (hg : PGs X es (gNs is)) (ha : PAWD X B W xs as) (hl : is.length = as.length) (hl2 : as.length ≤ sizeLine) (hn : (assignEach es X.env).length = as.length) (hst : (assignEach es X.env).findIdx? (·.1) = none)
    (hw : swappedStores [.Tuple es kt pt] (.Tuple xs k2 pt2) X.env = pure none)
    (hs : swapsWithSole [.Tuple es kt pt] (.Tuple xs k2 pt2) pos.line X.env = pure false := by rfl)
    (h1 : (assignEach [.Tuple es kt pt] X.env).map (·.2) = [assign (.Tuple es kt pt) X.env] := by rfl) :
    PSD X B W (.Assign [.Tuple es kt pt] (.Tuple xs k2 pt2) pos) (sPar is as) :=
  ps_wk (ps_parC hc ha hg hl2 hn hst hw hs h1) fun D σ H h => tAW_wk _ (fun xs H' e q => ⟨e, gNs_ok (by omega) q⟩) (par_ok h)
end
end Pd
end
section
set_option Elab.async false
set_option linter.all false
set_option maxRecDepth 100000
set_option maxHeartbeats 4000000
namespace Pd
open PySem L2

/-! ### methods that read -/
def kindV (T : String) : D → Bool
  | .list _ => T == "list"
  | .str _ => T == "str"
  | _ => false
def eMetR (T : String) (f : D → List D → Option Res) (o : Ev) (t : EvA) : Ev := fun ρ => (o ρ).bd fun r ρ1 => match look ρ1 r with
  | some d0 => if kindV T d0 then (t ρ1).bdE fun rs ρ2 => match look ρ2 r, looks ρ2 rs with
    | some d, some ds => retOp ρ2 (f d ds)
    | _, _ => .bad
    else .bad
  | none => .bad
def MetD (c : Ct) (r : V → List V → Hp → VK → Prop) (f : D → List D → Option Res) : Prop := ∀ F H d ds x xs res Q, Ex F H → RdX c F H d x → RdXs c F H ds xs → f d ds = some res → (∀ i, res ≠ .s i) ∧ (NewOk c F H Q res → r x xs H Q)
section
variable {X : Cx} {B : Bs} {W : WX} {x y z e : Expr} {es : List Expr} {a b : Ev} {t : EvA} {pos apos cpos p : Pos} {F H : Hp} {σ : L2.St} {ρ : Env} {Q : VK} {K : Frag}
theorem tyV_rdx {c : Ct} {T : String} {d : D} {v : V} (e : Ex F H) (h : RdX c F H d v) (k : kindV T d = true) : tyV c.K T v H := by
  cases d with
  | list ds =>
    have k' : T = "list" := by simpa [kindV] using k
    obtain ⟨a, xs, rfl, r, _⟩ := h.list e
    exact .inl ⟨k', xs, .inl r⟩
  | str s =>
    have k' : T = "str" := by simpa [kindV] using k
    rw [h.str]
    exact k'
  | _ => exact absurd k (by simp [kindV])
theorem metR_ok {T : String} {r : V → List V → Hp → VK → Prop} {f : D → List D → Option Res} (hf : MetD B.c r f) (σ : L2.St) (H : Hp) (Q : VK) (h : tE B W (eMetR T f a t) σ H Q) : tBM B.c.K T r (tE B W a) (tA B W t) σ H Q := by
  obtain ⟨F, ρ, S, h⟩ := h
  refine bd_ok S h fun r1 ρ1 F1 H1 x e1 S1 R1 h1 => ?_
  obtain ⟨F1', e1', S1', R1'⟩ := R1.hold S1
  cases l0 : look ρ1 r1 with
  | none => simp only [l0] at h1; exact h1.elim
  | some d0 =>
    simp only [l0] at h1
    split at h1
    · rename_i hk
      refine ⟨tyV_rdx S1.ex (R1.rd S1 l0) hk, ?_⟩
      refine abd_ok S1' (h1.mono e1') fun rs ρ2 F2 H2 ys e2 S2 R2 h2 => ?_
      have R1'' : ResOk B F2 σ H2 ρ2 r1.hold x := R1'.move hold_ne e2
      cases l1 : look ρ2 r1 with
      | none => simp only [l1] at h2; exact h2.elim
      | some d1 =>
        cases l2 : looks ρ2 rs with
        | none => simp only [l1, l2] at h2; exact h2.elim
        | some ds =>
          simp only [l1, l2] at h2
          cases l3 : f d1 ds with
          | none => rw [l3] at h2; exact h2.elim
          | some res =>
            rw [l3] at h2
            obtain ⟨ns, k⟩ := hf F2 H2 d1 ds x ys res Q S2.ex (R1''.rd S2 (by rw [look_hold]; exact l1)) (looks_ok S2 R2 l2) l3
            exact k (newOk S2 h2 ns)
    · exact h1.elim
theorem d_metR {T id : String} {nm : Str} {r : V → List V → Hp → VK → Prop} {f : D → List D → Option Res} (hK : B.c.K = X.K) (pa : PlainAttrs T) (slot : Slot T nm id) (hty : typeOf (.builtin id) = pure (.type "method_descriptor")) (hm : MtR X id r) (hr : MetD B.c r f)
    (ho : PED X B W x a) (ha : PAD X B W (e :: es) t)
    (hbase : attributeBase x nm X.env (eval x X.env) = eval x X.env := by rfl)
    (hfew : ((backTo cpos (starEach (e :: es) X.env)).all (fun x => !x.1) && (backToKw cpos (keywordEach [] X.env)).all (fun x => x.1.isSome)
      && decide ((e :: es).length + ([] : List Keyword).length + (if ([] : List Keyword).isEmpty then 0 else 1) < 30)) = true := by rfl)
    (hline : (apos.endLine == cpos.line) = true := by rfl) (hs : starEach (e :: es) X.env = (false, eval e X.env) :: starEach es X.env := by rfl) (hplain : (backTo cpos (starEach es X.env)).any (·.1) = false := by rfl) :
    PED X B W (.Call (.Attribute x nm apos) (e :: es) [] cpos) (eMetR T f a t) := pe_wk (pe_bm pa slot hty hm ho ha hbase hfew hline hs hplain) fun σ H Q h => by
      rw [← hK]
      exact metR_ok hr σ H Q h
end
/-! ### index of flat values -/
def flatD : D → Bool
  | .none => true
  | .bool _ => true
  | .int _ => true
  | .str _ => true
  | _ => false
def mIndex : D → List D → Option Res
  | .list ds, [y] => if flatD y && ds.all flatD then (ds.findIdx? fun z => PyData.eqv z y).map fun j => .v (.int (j : Nat)) else none
  | _, _ => none
theorem Rep.flat {c : Ct} {F : Hp} {d : D} {v : V} (h : Rep c F d v) (k : flatD d = true) : flatV v = true := by
  cases h <;> first | rfl | cases k
theorem flat_eqv {c : Ct} {F G : Hp} {d e : D} {v w : V} (h : Rep c F d v) (h2 : Rep c G e w) (k : flatD d = true) (k2 : flatD e = true) : eqV v w = PyData.eqv d e := by
  cases h <;> (try cases k) <;> cases h2 <;> (try cases k2) <;> first | rfl | simp [eqV, PyData.eqv]
theorem RdX.flat {c : Ct} {F H : Hp} {d : D} {v : V} (h : RdX c F H d v) (k : flatD d = true) : Rep c F d v := by
  cases h with
  | rep h => exact h
  | own h => cases h <;> cases k
theorem Reps.flat {c : Ct} {F : Hp} : ∀ {ds : List D} {vs : List V}, Reps c F ds vs → ds.all flatD = true → vs.all flatV = true
  | [], _, .nil, _ => rfl
  | d :: ds, _, .cons h t, k => by
    simp only [List.all_cons, Bool.and_eq_true] at k ⊢
    exact ⟨h.flat k.1, Reps.flat t k.2⟩
theorem M_index {c : Ct} : MetD c (rIndex c.K) mIndex := by
  intro F H d ds x xs res Q e hx hxs hf
  match d, ds, hx, hxs, hf with
  | .list zs, [y], hx, hxs, hf =>
    simp only [mIndex] at hf
    split at hf
    · rename_i hc
      rw [Bool.and_eq_true] at hc
      rw [Option.map_eq_some_iff] at hf
      obtain ⟨j, hj, rfl⟩ := hf
      obtain ⟨v, rfl, hv⟩ := hxs.one
      obtain ⟨a, ws, rfl, ha, hr⟩ := hx.list e
      have hy := hv.flat hc.1
      obtain ⟨hj1, hj2, hj3⟩ := List.findIdx?_eq_some_iff_getElem.mp hj
      obtain ⟨z, hz, rz⟩ := hr.getD (List.getElem?_eq_getElem hj1)
      have fl : ∀ m (hm : m < zs.length), flatD zs[m] = true := fun m hm => List.all_eq_true.mp hc.2 _ (List.getElem_mem hm)
      refine ⟨sv, fun k => ⟨a, ws, v, j, z, rfl, rfl, .inl ha, hy.flat hc.1, hr.flat hc.2, hz, ?_, ?_, k.here e (.int _)⟩⟩
      · rw [flat_eqv rz hy (fl j hj1) hc.1]
        exact hj2
      · intro m z' hm hz'
        obtain ⟨dz, hd, rd⟩ := hr.get hz'
        have hml : m < zs.length := by omega
        rw [List.getElem?_eq_getElem hml] at hd
        cases hd
        rw [flat_eqv rd hy (fl m hml) hc.1]
        simpa using hj3 m hm
    · cases hf
end Pd
end
section
set_option Elab.async false
set_option linter.all false
set_option maxRecDepth 100000
set_option maxHeartbeats 4000000
namespace Pd
open PySem L2
section
variable {ρ : Env} {o : Ev} {t : EvA} {T : String} {f : D → List D → Option Res} {ds : List D} {s : Str} {x y : D}
@[simp] theorem y_metR : eMetR T f o t ρ = (o ρ).bd fun r ρ1 => match look ρ1 r with
  | some d0 => if kindV T d0 then (t ρ1).bdE fun rs ρ2 => match look ρ2 r, looks ρ2 rs with
    | some d, some ds => retOp ρ2 (f d ds)
    | _, _ => .bad
    else .bad
  | none => .bad := rfl
@[simp] theorem y_kindV1 : kindV "list" (.list ds) = true := rfl
@[simp] theorem y_kindV2 : kindV "str" (.str s) = true := rfl
@[simp] theorem y_revT {xs : List D} : fRev (.tuple xs) = some (.v (.tuple xs.reverse)) := rfl
@[simp] theorem y_revL {xs : List D} : fRevL (.list xs) = some (.f (.list xs.reverse)) := rfl
@[simp] theorem y_revI {xs : List D} : fRev (.list xs) = some (.f (.list xs.reverse)) := rfl
end
/-! ### lists of ints -/
theorem eqvAll_ints : ∀ xs ys : List Int, PyData.eqvAll (xs.map PyData.int) (ys.map PyData.int) = decide (xs = ys)
  | [], [] => by simp [PyData.eqvAll]
  | [], _ :: _ => by simp [PyData.eqvAll]
  | _ :: _, [] => by simp [PyData.eqvAll]
  | x :: xs, y :: ys => by
    have ih := eqvAll_ints xs ys
    simp only [List.map_cons, PyData.eqvAll, ih, eqv_int]
    by_cases h : x = y <;> simp [h]
theorem eq_ints (xs ys : List Int) : fEq (.list (xs.map PyData.int)) (.list (ys.map PyData.int)) = some (decide (xs = ys)) := by
  unfold fEq
  rw [fit_ints, fit_ints]
  simp [PyData.eqv, eqvAll_ints]
theorem ne_ints (xs ys : List Int) : fNe (.list (xs.map PyData.int)) (.list (ys.map PyData.int)) = some (!decide (xs = ys)) := by
  unfold fNe
  rw [fit_ints, fit_ints]
  simp [PyData.eqv, eqvAll_ints]
theorem asInts_of {α : Type} (f : α → Int) : ∀ xs : List α, asInts (xs.map fun x => PyData.int (f x)) = some (xs.map f)
  | [] => rfl
  | x :: xs => by
    have := asInts_of f xs
    simp [asInts] at this ⊢
    simp [this]
theorem least_of {n : Int} {ns : List Int} {v : Int} (h : ∀ y ∈ n :: ns, v ≤ y) (h2 : v ∈ n :: ns) : leastI n ns = v := by
  have m := h _ (leastI_mem ns n)
  have l := leastI_le ns n
  have b : leastI n ns ≤ v := by
    rcases List.mem_cons.mp h2 with z | z
    · rw [z]; exact l.1
    · exact l.2 v z
  omega
theorem min_of {α : Type} (f : α → Int) {xs : List α} {v : Int} (h : ∀ x ∈ xs, v ≤ f x) (h2 : ∃ x ∈ xs, f x = v) : fMin [.list (xs.map fun x => PyData.int (f x))] = some (.v (.int v)) := by
  obtain ⟨x, hx, e1⟩ := h2
  simp only [fMin, asInts_of]
  cases e2 : xs.map f with
  | nil => cases xs with
    | nil => cases hx
    | cons a b => simp at e2
  | cons n ns =>
    have : leastI n ns = v := least_of (fun y hy => by
      rw [← e2, List.mem_map] at hy
      obtain ⟨z, hz, rfl⟩ := hy
      exact h z hz) (by rw [← e2, List.mem_map]; exact ⟨x, hx, e1⟩)
    simp [this]
/-- min, max of what is not empty -/
theorem min_ex {α : Type} (f : α → Int) {xs : List α} (h : xs ≠ []) : ∃ x ∈ xs, (∀ y ∈ xs, f x ≤ f y) ∧ fMin [.list (xs.map fun x => PyData.int (f x))] = some (.v (.int (f x))) := by
  cases xs with
  | nil => exact absurd rfl h
  | cons a b =>
    have m := leastI_mem (b.map f) (f a)
    have l := leastI_le (b.map f) (f a)
    rw [← List.map_cons, List.mem_map] at m
    obtain ⟨x, hx, e⟩ := m
    refine ⟨x, hx, fun y hy => ?_, ?_⟩
    · rw [e]
      rcases List.mem_cons.mp hy with rfl | hy
      · exact l.1
      · exact l.2 _ (List.mem_map.mpr ⟨y, hy, rfl⟩)
    · simp only [fMin, asInts_of]
      rw [e]
      rfl
theorem max_ex {α : Type} (f : α → Int) {xs : List α} (h : xs ≠ []) : ∃ x ∈ xs, (∀ y ∈ xs, f y ≤ f x) ∧ fMax [.list (xs.map fun x => PyData.int (f x))] = some (.v (.int (f x))) := by
  cases xs with
  | nil => exact absurd rfl h
  | cons a b =>
    have m := mostI_mem (b.map f) (f a)
    have l := mostI_le (b.map f) (f a)
    rw [← List.map_cons, List.mem_map] at m
    obtain ⟨x, hx, e⟩ := m
    refine ⟨x, hx, fun y hy => ?_, ?_⟩
    · rw [e]
      rcases List.mem_cons.mp hy with rfl | hy
      · exact l.1
      · exact l.2 _ (List.mem_map.mpr ⟨y, hy, rfl⟩)
    · simp only [fMax, asInts_of]
      rw [e]
      rfl
/-- xs[a:b] -/
theorem cut_mid {xs : List D} {a b : Nat} (h : b ≤ xs.length) : cutD xs (some (a : Int)) (some (b : Int)) = (xs.drop a).take (b - a) := by
  unfold cutD
  rw [HT.sIx_nat, HT.sIx_nat, Nat.min_eq_left h]
  by_cases h2 : a ≤ xs.length
  · rw [Nat.min_eq_left h2]
  · rw [Nat.min_eq_right (by omega), List.drop_of_length_le (by omega), List.drop_of_length_le (by omega), List.take_nil, List.take_nil]
/-- cuts of a row by places -/
theorem cut_row {f : Nat → D} {m : Nat} {a b : Int} (h0 : 0 ≤ a) (h1 : a ≤ b) (h2 : b ≤ m) : cutD ((List.range m).map f) (some a) (some b) = (List.range (b - a).toNat).map fun t => f (a.toNat + t) := by
  obtain ⟨x, rfl⟩ : ∃ x : Nat, a = x := ⟨a.toNat, by omega⟩
  obtain ⟨y, rfl⟩ : ∃ y : Nat, b = y := ⟨b.toNat, by omega⟩
  rw [cut_mid (by rw [List.length_map, List.length_range]; omega)]
  refine List.ext_getElem ?_ fun i g1 g2 => ?_
  · simp
    omega
  · simp
theorem cut_row0 {f : Nat → D} {m : Nat} {b : Int} (h0 : 0 ≤ b) (h2 : b ≤ m) : cutD ((List.range m).map f) none (some b) = (List.range b.toNat).map f := by
  have e2 : b = ((b.toNat : Nat) : Int) := by omega
  rw [e2, cut_to, ← List.map_take, List.take_range, Nat.min_eq_left (by omega)]
  rfl
end Pd
end
section
set_option Elab.async false
set_option linter.all false
set_option maxRecDepth 100000
set_option maxHeartbeats 4000000
/-! a generator expression that all(..) walks: its elements may call defs -/
namespace GX
open PySem PySem.Spec PyProof.Rows L2 GxR
abbrev Sg := L2.St
/-- the context of a generator expression's frame -/
abbrev gx (X : Cx) (s : Shared) (H : Hp) (env : PySem.Env) (fp : List Addr) (A : Around) : Cx :=
  { X with A := A.deeper env, s_0 := s, H_0 := H, env := env, outer := X.stack, stack := env :: X.stack, ex := fp, fn := fun _ => false, calm := true, pn := [], xe := fun _ _ => False }
abbrev gEnv (X : Cx) (scope : Scope) (C : Addr) (code : Value) (cl : List (Str × Addr)) : PySem.Env := genEnv scope cl C code builtinsNs X.env
section
variable {X : Cx} {pins : List (Addr × Obj)} {σ : Sg} {H : Hp} {s s1 : Shared} {A : Around} {scope : Scope} {own : List (Str × Nat)} {fp : List Addr} {code : Value} {m : Str → Option Value}
theorem gen_start (I : L2.Inv X pins σ H s) (ok : BlkOk X.N X.env.scope scope own) (hN : X.N.Nodup) (hfp : ∀ b ∈ fp, FpOk X pins H b ∧ b < s.heap.objs.size) (hA : A.handled = none) (hfr : A.frames = some X.stack)
    (hns : s1.heap.Ns s.heap.objs.size m) (kp : ∀ b o, s.heap.get? b = some o → s1.heap.get? b = some o) (os : s1.os = s.os) (bare : AllBare s1.gens) (nocell : ∀ y ∈ scope.names, y.2 ≠ .cell) :
    L2.Inv (gx X s H (gEnv X scope s.heap.objs.size code (cloFrom X.env.cells scope.names [])) fp A) [] (wipe σ (own.map (·.2))) H s1 := by
  have hfree : ∀ y ∈ scope.names, y.2 = .free → ∃ c, X.env.cells.lookup y.1 = some c := fun y hy e => by
    rcases ok.free y hy e with k | k
    · exact I.ok.has _ (.inl k)
    · exact I.ok.has _ (.inr k)
  generalize hcenv : gEnv X scope s.heap.objs.size code (cloFrom X.env.cells scope.names []) = cenv
  have hL : cenv.locals = s.heap.objs.size := by rw [← hcenv]; rfl
  have hcl : cenv.cells = cloFrom X.env.cells scope.names [] := by rw [← hcenv]; rfl
  have hsc : cenv.scope = scope := by rw [← hcenv]; rfl
  have cm : ∀ {y c}, (y, c) ∈ cloFrom X.env.cells scope.names [] → X.env.cells.lookup y = some c ∧ c < s.heap.objs.size := fun {y c} hm => by
    rcases cloFrom_mem hm with hm | ⟨h1, rfl⟩
    · cases hm
    · obtain ⟨c, hc⟩ := hfree _ h1 rfl
      rw [hc]
      obtain ⟨w, z⟩ := I.cell _ _ hc
      exact ⟨rfl, z.lt⟩
  have mem : ∀ {y c}, cenv.cells.lookup y = some c → X.env.cells.lookup y = some c ∧ c < s.heap.objs.size := fun {y c} e => by
    rw [hcl] at e
    exact cm (PySem.mem_of_lookup e)
  have look : ∀ {y}, scope.names.lookup y = some .free → ∃ c, cenv.cells.lookup y = some c ∧ X.env.cells.lookup y = some c := fun {y} hl => by
    have hy : (y, NameKind.free) ∈ scope.names := PySem.mem_of_lookup hl
    obtain ⟨c', e'⟩ := mem_lookup (cloFrom_has (cells := X.env.cells) (acc := []) hy)
    rw [← hcl] at e'
    exact ⟨c', e', (mem e').1⟩
  have okB : (gx X s H cenv fp A).Ok := by
    refine ⟨I.ok.mod, by show cenv.scope.kind = _; rw [hsc]; exact ok.kind, by show cenv.globals = _; rw [← hcenv]; exact I.ok.glob, by show cenv.builtins = _; rw [← hcenv]; rfl, by show s.heap.objs.size ≤ cenv.locals; rw [hL]; exact Nat.le_refl _,
      fun y z c e1 e2 => I.ok.inj y z c (mem e1).1 (mem e2).1, fun y hy => ?_, fun y c z e => (Bool.noConfusion z), fun _ => hA, Around.frames_deeper hfr, .inr ⟨rfl, by show cenv.frame = some cenv.locals; rw [← hcenv]; rfl⟩, fun b hb => ⟨?_, fun y c e z => ?_⟩, I.bs, Nat.le_trans I.ok.bsz I.sz, fun b o e hb => ?_, fun b hb z => ?_, I.stack, I.stkFree⟩
    · have key : cenv.kindOf y = some .cell ∨ cenv.kindOf y = some .free → ∃ c, cenv.cells.lookup y = some c := fun h => by
        rcases h with h | h
        · have h' : scope.names.lookup y = some .cell := by rw [← hsc]; exact h
          exact absurd rfl (nocell _ (PySem.mem_of_lookup h'))
        · have h' : scope.names.lookup y = some .free := by rw [← hsc]; exact h
          obtain ⟨c, e, _⟩ := look h'
          exact ⟨c, e⟩
      exact key hy
    · show b ≠ cenv.locals
      rw [hL]; exact Nat.ne_of_lt (hfp b hb).2
    · exact (hfp b hb).1.2.2.2.2.1 y c (mem e).1 z
    · rcases (hfp b hb).1.2.2.2.1 with z | z
      · exact I.ok.noex b o e z
      · exact absurd (Nat.lt_of_lt_of_le (Heap.lt_size e) (Nat.le_trans I.ok.bsz z)) (Nat.lt_irrefl _)
    · rcases List.mem_cons.mp (I.stkSub b z) with z | z
      · exact (hfp b hb).1.2.1 z
      · exact (hfp b hb).1.2.2.1 z
  refine ⟨okB, os, bare, Un.kept kp, ⟨m, ?_, fun i y av e1 e2 e3 => ?_⟩, fun y c e => ?_, ?_, fun y c e => ?_, fun p hp => absurd (show p ∈ ([] : List (Addr × Obj)) from hp) (by simp), I.hok.kept kp, by rw [wipe_length]; exact I.len⟩
  · show Heap.Ns _ cenv.locals _
    rw [hL]
    exact hns
  · obtain ⟨e2, hne⟩ := wipe_some e2
    have e3 : Vis cenv.scope y := e3
    rw [hsc] at e3
    have no : ¬ (scope.names.lookup y = some .local ∨ scope.names.lookup y = some .cell) := fun hh => by
      have e : ∃ k, (k = .local ∨ k = .cell) ∧ scope.names.lookup y = some k := by
        rcases hh with hh | hh
        · exact ⟨_, .inl rfl, hh⟩
        · exact ⟨_, .inr rfl, hh⟩
      obtain ⟨k, hk, e⟩ := e
      rcases ok.own _ (PySem.mem_of_lookup e) hk with e' | e'
      · obtain ⟨p, hp, hpy⟩ := List.mem_map.mp e'
        have e3 := ok.ix p hp
        have : p.1 = y := hpy
        rw [this] at e3
        exact hne (List.mem_map.mpr ⟨p, hp, nodup_ix hN e3 e1⟩)
      · exact e' (List.mem_of_getElem? e1)
    have hfr : scope.names.lookup y = some .free := by
      rcases e3 with e3 | e3 | e3
      · exact absurd (.inl e3) no
      · exact absurd (.inr e3) no
      · exact e3
    obtain ⟨m, hn, hl⟩ := I.loc
    have hvis : Vis X.env.scope y := (ok.free _ (PySem.mem_of_lookup hfr) rfl).elim (fun k => .inr (.inl k)) (fun k => .inr (.inr k))
    obtain ⟨w, r, q⟩ := hl i y av e1 e2 hvis
    refine ⟨w, r, .inr ⟨.inr (by show cenv.scope.names.lookup y = _; rw [hsc]; exact hfr), ?_⟩⟩
    obtain ⟨c, h1, h2⟩ := look hfr
    rcases q with ⟨k, _⟩ | ⟨_, c', e', z⟩
    · have k : X.env.scope.names.lookup y = some .local := k
      rcases ok.free _ (PySem.mem_of_lookup hfr) rfl with k' | k' <;> rw [show X.env.scope.names.lookup y = _ from k'] at k <;> cases k
    · rw [h2] at e'
      cases e'
      obtain ⟨o, ho, hd⟩ := z
      exact ⟨c, h1, o, kp _ _ ho, hd⟩
  · obtain ⟨w, o, ho, hd⟩ := I.cell y c (mem e).1
    exact ⟨w, o, kp _ _ ho, hd⟩
  · show H cenv.locals = none
    rw [hL]
    exact I.hok.fresh (Nat.le_refl _)
  · exact I.freeC y c (mem e).1
end
/-! ### its run -/
section
variable {X : Cx} {σ : Sg} {H : Hp} {s4 : Shared} {A : Around} {scope : Scope} {env : PySem.Env} {fp : List Addr} {a it : Addr} {oa : Obj} {vs : List Nat} {J : It} {tn : Nat → Heap → Prop} {g : TG} {te : TE} {elt tg iter : Expr} {pos : Pos} {W : Nat → Nat → Hp → Prop} {QT QF : Hp → Prop}
/-- the heap has grown, no more -/
structure Cont (s1 s2 : Shared) : Prop where
  os : s2.os = s1.os
  bare : AllBare s2.gens
  kp : ∀ b o, s1.heap.get? b = some o → s2.heap.get? b = some o
theorem inv_cont {X : Cx} {pins : List (Addr × Obj)} {σ : Sg} {H : Hp} {s1 s2 : Shared} (I : L2.Inv X pins σ H s1) (c : Cont s1 s2) : L2.Inv X pins σ H s2 :=
  I.call' (ch := []) c.os (Un.kept c.kp) (I.hok.kept c.kp) c.bare fun b hb => absurd hb (by simp)
theorem over_gen {A : Around} {c : Code} {e : Expr} {sc : Scope} {p : Pos} {tg iter : Expr} {it : Value} {env : PySem.Env} : A.over (.compLoop (.GeneratorExp e [⟨tg, iter, [], 0⟩] sc p) 0 it .none env) [] = A.deeper env := by
  first
    | rfl
    | (obtain ⟨hd, d, fr, gs, u⟩ := A; simp [Around.over, Around.deeper, marksOver, frameCount, unitsOf, envsOf, guardsOf, pushEnvs, pushGuards, Code.envs, Code.env?, Code.isFrame, Code.guards, Code.isGuard, Code.weight, Code.frames, Code.isCreation, Code.isCaller, Code.cUnits])
/-- each turn: the end, or an item and a test -/
def Turns (J : It) (σw : Sg) (vs : List Nat) (g : TG) (te : TE) (W : Nat → Nat → Hp → Prop) (QT QF : Hp → Prop) : Prop :=
  ∀ i n H, W i n H → (J.stop i H ∧ QT H) ∨ (J.go i H ∧ ∀ x H', J.yld i H x H' → g x σw H' fun σ' H'' => wipe σ' vs = σw ∧ te σ' H'' fun y H3 => ∃ b, y = .bl b ∧ (b = false → QF H3) ∧ (b = true → ∃ m, m < n ∧ W (i + 1) m H3))
abbrev GC (X : Cx) (s4 : Shared) (H : Hp) (env : PySem.Env) (fp : List Addr) (A : Around) : Cx := gx X s4 H env fp A
def GEnd_ (G : Cx) (pins : List (Addr × Obj)) (σw : Sg) (QT : Hp → Prop) : Shared → Prop := fun s1 => ∃ H', L2.Inv G pins σw H' s1 ∧ QT H'
def GR (G : Cx) (pins : List (Addr × Obj)) (σw : Sg) (QT : Hp → Prop) : GenEnd := fun _ _ r s1 => r = .ok .next ∧ GEnd_ G pins σw QT s1
def GY (G : Cx) (pins : List (Addr × Obj)) (σw : Sg) (QF : Hp → Prop) : Protocol := fun _ _ v s1 kap => ∃ b H', v = .bool b ∧ L2.Inv G pins σw H' s1 ∧ (b = false → QF H') ∧ (b = true → ∀ s2, Cont s1 s2 → kap (.send .none) s2)
theorem seg_loop (hco : env.scope.isCoroutine = false) (T : Turn X.prog X.w X.K tg J fp it tn) (na : ∀ b ∈ fp, a ≠ b)
    (pg : PG (GC X s4 H env fp A) tg g) (pe : PE (GC X s4 H env fp A) elt te) (turn : Turns J (wipe σ vs) vs g te W QT QF) :
    ∀ (N n : Nat), n < N → ∀ (i : Nat) (s0 s : Shared) (H' : Hp), L2.Inv (GC X s4 H env fp A) [(a, oa)] (wipe σ vs) H' s → tn i s.heap → (∀ b ∈ fp, H' b = none) → W i n H' →
      Seg (model X.prog X.w) A (GR (GC X s4 H env fp A) [(a, oa)] (wipe σ vs) QT) (GY (GC X s4 H env fp A) [(a, oa)] (wipe σ vs) QF) N s0
        (.compLoop (.GeneratorExp elt [⟨tg, iter, [], 0⟩] scope pos) 0 (.ref it) .none env)
        ((model X.prog X.w).den (.compLoop (.GeneratorExp elt [⟨tg, iter, [], 0⟩] scope pos) 0 (.ref it) .none env)) [] s := by
  have stat : ∀ {σ' : Sg} {H' : Hp} {s' : Shared}, L2.Inv (GC X s4 H env fp A) [(a, oa)] σ' H' s' → (∀ b ∈ fp, H' b = none) → ∀ b ∈ fp, FpOk (GC X s4 H env fp A) [(a, oa)] H' b := fun {σ' H' s'} I' hn b hb =>
    ⟨hn b hb, (I'.ok.exf b hb).1, I'.ok.exfs b hb, .inl hb, fun x c e => (I'.ok.exf b hb).2 x c e, fun q hq => by
      have hq : q ∈ ([] : List (Addr × Obj)) ++ [(a, oa)] := hq
      rw [List.nil_append, List.mem_singleton] at hq
      subst hq
      exact na b hb⟩
  intro N
  induction N with
  | zero => intro n hn; omega
  | succ N ih =>
    intro n hn i s0 s H' I st nf w
    show Seg _ A _ _ _ s0 _ ((compTurn (.GeneratorExp elt [⟨tg, iter, [], 0⟩] scope pos) 0 (.ref it) .none env).onRaise (leaving env)) [] s
    rw [compTurn_gen, Sem.onRaise_eq_wrap]
    refine seg_bind_wrap (wpAny_standAt ?_)
    rcases turn i n H' w with ⟨stop, qt⟩ | ⟨go, step⟩
    · refine seg_bind_wrap (wpAny_mono (T.done (GC X s4 H env fp A) rfl rfl rfl rfl i [(a, oa)] s _ H' (fun _ _ => False) I (stat I nf) st stop) (fun r s1 hr => ?_) fun _ _ e => e.elim)
      obtain ⟨rfl, I1⟩ := hr
      exact seg_end (.ok .next) ⟨rfl, H', I1, qt⟩
    · refine seg_bind_wrap (wpAny_mono (T.item (GC X s4 H env fp A) rfl rfl rfl rfl i [(a, oa)] s _ H' (fun _ _ => False) I (stat I nf) st go) (fun r s1 hr => ?_) fun _ _ e => e.elim)
      obtain ⟨u, rfl, h1⟩ := hr
      refine seg_bind_wrap (wpAny_mono h1 (fun _ s2 h2 => ?_) fun _ _ e => e.elim)
      obtain ⟨x, H2, I2, r2, y2, st2, n2⟩ := h2
      have I2' := I2.pinned (stat I2 n2) (T.obj _ _ st2)
      refine seg_bind_wrap (wpAny_mono (pg.run _ s2 _ H2 x u _ I2' r2 (step x H2 y2)) (fun _ s3 h3 => ?_) fun _ _ e => e.elim)
      obtain ⟨σ3, H3, I3, hw3, q3⟩ := h3
      simp only [List.forIn_nil]
      refine seg_bind_wrap (wpAny_pure ?_)
      simp only [if_true]
      have hy : ∀ v, yieldOut env v = yieldValue v := fun v => by simp only [yieldOut, hco, Bool.false_eq_true, if_false]
      simp only [hy]
      rw [Sem.bind_eq_wrap', Sem.bind_eq_wrap', Sem.wrap_wrap, Sem.wrap_wrap]
      refine seg_wrap (wpAny_mono (pe.run _ s3 σ3 H3 _ I3 q3) (fun y s5 h5 => ?_) fun _ _ e => e.elim)
      obtain ⟨yv, H5, I5, r5, b, rfl, qf, qt⟩ := h5
      have r5 : y = .bool b := r5
      subst r5
      have pin' : ∀ b ∈ fp, ∀ o, s2.heap.get? b = some o → s5.heap.get? b = some o ∧ H5 b = none := fun b hb o e => by
        have z := I5.pin (b, o) (List.mem_append_right _ (List.mem_append_right _ (mem_pinsAt hb e)))
        exact ⟨z.1, z.2.1⟩
      have hl : (wipe σ vs).length = σ3.length := by rw [← hw3, wipe_length]
      have I6 : L2.Inv (GC X s4 H env fp A) [(a, oa)] (wipe σ vs) H5 s5 := I5.unpinned.weak hl (fun j v e => by
        rw [← hw3] at e
        exact (wipe_some e).1)
      have st5 : tn (i + 1) s5.heap := T.keep _ _ _ st2 fun b hb o e => (pin' b hb o e).1
      have n5 : ∀ b ∈ fp, H5 b = none := fun b hb => by
        obtain ⟨o, e, _⟩ := T.obj _ _ st2 b hb
        exact (pin' b hb o e).2
      refine seg_at (seg_yield rfl rfl rfl ⟨b, H5, rfl, I6, qf, fun hb s6 c => ?_⟩)
      obtain ⟨m, hm, wm⟩ := qt hb
      exact seg_again rfl (ih m (by omega) (i + 1) s6 s6 H5 (inv_cont I6 c) (T.keep _ _ _ st5 fun b _ o e => c.kp b o e) n5 wm)
theorem seg_start (hco : env.scope.isCoroutine = false) (T : Turn X.prog X.w X.K tg J fp it tn) (na : ∀ b ∈ fp, a ≠ b)
    (pg : PG (GC X s4 H env fp A) tg g) (pe : PE (GC X s4 H env fp A) elt te) (turn : Turns J (wipe σ vs) vs g te W QT QF)
    {n : Nat} {s0 s : Shared} {H' : Hp} (I : L2.Inv (GC X s4 H env fp A) [(a, oa)] (wipe σ vs) H' s) (st : tn 0 s.heap) (nf : ∀ b ∈ fp, H' b = none) (w : W 0 n H') :
    Seg (model X.prog X.w) A (GR (GC X s4 H env fp A) [(a, oa)] (wipe σ vs) QT) (GY (GC X s4 H env fp A) [(a, oa)] (wipe σ vs) QF) (n + 1) s0
      (.compStart (.GeneratorExp elt [⟨tg, iter, [], 0⟩] scope pos) 0 (.ref it) .none env)
      ((model X.prog X.w).den (.compStart (.GeneratorExp elt [⟨tg, iter, [], 0⟩] scope pos) 0 (.ref it) .none env)) [] s := by
  have loop := seg_loop (iter := iter) (scope := scope) (pos := pos) hco T na pg pe turn (n + 1) n (Nat.lt_succ_self n) 0 s0 s H' I st nf w
  show Seg _ A _ _ _ s0 _ ((compStart (.GeneratorExp elt [⟨tg, iter, [], 0⟩] scope pos) 0 (.ref it) .none env).onRaise (leaving env)) [] s
  unfold compStart
  rw [Sem.onRaise_eq_wrap]
  show Seg _ A _ _ _ s0 _ ((ask >>= _).wrap _ _ _ _) [] s
  refine seg_bind_wrap (wpAny_askSetting ?_)
  split
  · exact seg_again rfl loop
  · first
      | exact seg_bind_wrap (wpAny_rule (seg_bind_wrap (wpAny_standAt (seg_bind_wrap (T.self _ 0 s _ _ st (seg_again rfl loop))))))
      | (refine seg_bind_wrap (wpAny_rule ?_); show Seg _ A _ _ _ s0 _ ((standAt iter.pos >>= _).wrap _ _ _ _) [] s; exact seg_bind_wrap (wpAny_standAt (seg_bind_wrap (T.self _ 0 s _ _ st (seg_again rfl loop)))))
end
/-! ### all(..) walks it -/
theorem setGen_cont {s : Shared} {g : Nat} {x : GenState} (hb : AllBare s.gens) (hx : x.bare = true) : Cont s (s.setGen g x) :=
  ⟨rfl, allBare_setGen' hb hx, fun _ _ e => e⟩
where
  allBare_setGen' {s : Shared} {g : Nat} {x : GenState} (h : AllBare s.gens) (hx : x.bare = true) : AllBare (s.setGen g x).gens := fun y hy => by
    obtain ⟨i, hi, e⟩ := Array.mem_iff_getElem.mp hy
    have hi' : i < s.gens.size := by
      have q : (s.setGen g x).gens.size = s.gens.size := by simp [Shared.setGen]
      rw [q] at hi; exact hi
    by_cases z : i = g
    · subst z
      have q : (s.setGen i x).gens[i]? = some x := by
        show (s.gens.setIfInBounds i x)[i]? = some x
        simp [hi']
      have q2 : (s.setGen i x).gens[i]? = some y := by rw [Array.getElem?_eq_getElem hi, e]
      rw [q] at q2; cases q2; exact hx
    · have q : (s.setGen g x).gens[i]? = s.gens[i]? := by
        show (s.gens.setIfInBounds g x)[i]? = _
        rw [Array.getElem?_setIfInBounds_ne (Ne.symm z)]
      have q2 : s.gens[i]? = some y := by rw [← q, Array.getElem?_eq_getElem hi, e]
      exact h y (Array.mem_of_getElem? q2)
theorem Cont.trans {a b c : Shared} (x : Cont a b) (y : Cont b c) : Cont a c := ⟨y.os.trans x.os, y.bare, fun q o e => y.kp q o (x.kp q o e)⟩
section
variable {P : Program} {w : World} {G : Cx} {σw : Sg} {QT QF : Hp → Prop} {a : Addr} {oa : Obj} {g : Nat} {A0 : Around} {R : Result → Shared → Prop}
theorem all_loop (hh : A0.handled = none) (hd : A0.depth < recursionLimit) (hgen : ∀ h : Heap, h.get? a = some oa → h.IsGen a g)
    (hT : ∀ s1 H', L2.Inv G [(a, oa)] σw H' s1 → QT H' → ∀ s2, Cont s1 s2 → R (.ok (.ret (.bool true))) s2)
    (hF : ∀ s1 H', L2.Inv G [(a, oa)] σw H' s1 → QF H' → ∀ s2, Cont s1 s2 → R (.ok (.ret (.bool false))) s2) :
    ∀ (N : Nat) (s : Shared), s.heap.get? a = some oa → s.heap.NoLimit → AllBare s.gens → (∃ gs, s.gens[g]? = some gs ∧ gs.Goes (model P w) A0.in1.in1 (GR G [(a, oa)] σw QT) (GY G [(a, oa)] σw QF) N (.send .none) (s.setGen g .running)) →
      codeAny (model P w) A0 (.builtin "all.loop" ⟨[.ref a], []⟩) R s := by
  intro N
  induction N with
  | zero =>
    intro s ha hl hb ⟨gs, hgs, hgo⟩
    refine codeAny_builtin F.entry_all_loop ?_
    rw [Around.under_plainId F.plain_all_loop _]
    show wpAny _ A0.in1 (pyNext (.ref a) >>= _) _ _ s
    refine wpAny_bind (wpAny_pyNext_genexpQ (A := A0.in1) (P := fun _ _ s1 => GEnd_ G [(a, oa)] σw QT s1) hh hl hd (hgen _ ha) hgs hgo (fun v s1 gs' hbare hv => ?_) (fun s1 hp h' hk => ?_))
    · obtain ⟨b, H', rfl, I, qf, qt⟩ := hv
      cases b with
      | true => exact (qt rfl s1 ⟨rfl, I.bare, fun _ _ e => e⟩).elim
      | false =>
        refine wpAny_bind (wpAny_holding (wpAny_truthy_bool ?_))
        refine wpAny_bind (wpAny_letGo ?_)
        simp only [Bool.false_eq_true, if_false]
        refine wpAny_bind (wpAny_rule (wpAny_pure ?_))
        exact hF s1 H' I (qf rfl) _ (setGen_cont I.bare hbare)
    · obtain ⟨H', I, q⟩ := hp
      refine wpAny_bind (wpAny_rule (wpAny_pure ?_))
      exact hT s1 H' I q _ ⟨rfl, (setGen_cont (x := .finished) I.bare rfl).bare, hk⟩
  | succ N ih =>
    intro s ha hl hb ⟨gs, hgs, hgo⟩
    have hgl : g < s.gens.size := (Array.getElem?_eq_some_iff.mp hgs).1
    refine codeAny_builtin F.entry_all_loop ?_
    rw [Around.under_plainId F.plain_all_loop _]
    show wpAny _ A0.in1 (pyNext (.ref a) >>= _) _ _ s
    refine wpAny_bind (GenW.wpAny_gsz (n := g + 1) hgl (wpAny_pyNext_genexpQ (A := A0.in1) (P := fun _ _ s1 => GEnd_ G [(a, oa)] σw QT s1) hh hl hd (hgen _ ha) hgs hgo (fun v s1 gs' hbare hv => ?_) (fun s1 hp h' hk => ?_)))
    · intro hsz
      obtain ⟨b, H', rfl, I, qf, qt⟩ := hv
      have c := setGen_cont (g := g) I.bare hbare
      refine wpAny_bind (wpAny_holding (wpAny_truthy_bool ?_))
      refine wpAny_bind (wpAny_letGo ?_)
      cases b with
      | true =>
        simp only [if_true]
        refine wpAny_pure ⟨plainId_quiet F.plain_all_loop _, ?_⟩
        have hsz1 : g < s1.gens.size := by
          have q : (s1.setGen g gs').gens.size = s1.gens.size := by simp [Shared.setGen]
          omega
        have pa := I.pin (a, oa) (List.mem_append_right _ (List.mem_singleton.mpr rfl))
        refine ih (s1.setGen g gs') pa.1 I.nolimit c.bare ⟨gs', ?_, ?_⟩
        · show (s1.gens.setIfInBounds g gs')[g]? = some gs'
          simp [hsz1]
        · exact qt rfl _ (c.trans (setGen_cont c.bare rfl))
      | false =>
        simp only [Bool.false_eq_true, if_false]
        refine wpAny_bind (wpAny_rule (wpAny_pure ?_))
        exact hF s1 H' I (qf rfl) _ c
    · intro _
      obtain ⟨H', I, q⟩ := hp
      refine wpAny_bind (wpAny_rule (wpAny_pure ?_))
      exact hT s1 H' I q _ ⟨rfl, (setGen_cont (x := .finished) I.bare rfl).bare, hk⟩
end
/-! ### its making -/
def tAllG (P : Addr) (wi : TI) (g : TG) (te : TE) (vs : List Nat) : TE := fun σ H Q => wi σ H fun J H1 => TabG H1 P ∧ ∀ H2, Tabbed P H1 H2 → ∃ W n, W 0 n H2 ∧ Turns J (wipe σ vs) vs g te W (Q (.bl true)) (Q (.bl false))
section
variable {X : Cx} {c P : Addr} {elt tg iter : Expr} {p pos gpos : Pos} {scope : Scope} {own : List (Str × Nat)} {wi : TI} {g : TG} {te : TE} {k : Nat}
theorem pe_allG (hr : Room (k + 3) X.A) (hgl : Gl X "all") (hm : X.mg "all" = none) (hb : bootBuiltins "all" = some (.builtin "all")) (TB : TabB X.base X.mg c P) (hcode : X.env.code = .ref c) (hN : X.N.Nodup) (ok : BlkOk X.N X.env.scope scope own)
    (nocell : ∀ y ∈ scope.names, y.2 ≠ .cell) (dot : scope.names.lookup (".0" : Str) = some NameKind.local) (hco : scope.isCoroutine = false) (hi : PI X tg iter wi)
    (hg : ∀ (s : Shared) (H : Hp) (C : Addr) (code : Value) (cl : List (Str × Addr)) (fp : List Addr) (A : Around), Room k (A.deeper (gEnv X scope C code cl)) → PG (gx X s H (gEnv X scope C code cl) fp A) tg g)
    (he : ∀ (s : Shared) (H : Hp) (C : Addr) (code : Value) (cl : List (Str × Addr)) (fp : List Addr) (A : Around), Room k (A.deeper (gEnv X scope C code cl)) → PE (gx X s H (gEnv X scope C code cl) fp A) elt te)
    (hs : ∀ v, genFold iter X.env v = pure v := by intro _; rfl)
    (hst : starEach [.GeneratorExp elt [⟨tg, iter, [], 0⟩] scope gpos] X.env = (false, eval (.GeneratorExp elt [⟨tg, iter, [], 0⟩] scope gpos) X.env) :: starEach [] X.env := by rfl) :
    PE X (.Call (.Name "all" p) [.GeneratorExp elt [⟨tg, iter, [], 0⟩] scope gpos] [] pos) (tAllG P wi g te (own.map (·.2))) := by
  refine ⟨fun pins s σ H Q I h => ?_⟩
  have hfree : ∀ y ∈ scope.names, y.2 = .free → ∃ c, X.env.cells.lookup y.1 = some c := fun y hy e => (ok.free y hy e).elim (fun k => I.ok.has _ (.inl k)) fun k => I.ok.has _ (.inr k)
  refine wpAny_Call_Name_kw (ld_blt I hgl hm hb ?_)
  refine PyProof.Rows.callWith_builtin1 ?_ hst (by rfl)
  rw [hst]
  show wpAny _ _ (spliced ((false, eval (.GeneratorExp elt [⟨tg, iter, [], 0⟩] scope gpos) X.env) :: backTo pos (starEach [] X.env))) _ _ s
  refine Calls.spliced_cons (wpAny_GeneratorExp_make hco (closure_ok hfree) nocell dot ok.kind hr.depth ?_ hs)
  refine thn (hi.run pins s σ H _ I h) fun xv s1 h1 => thn h1 fun itv s2 h2 => ?_
  obtain ⟨it, fp, tn, J, H1, rfl, I2, T, st2, f2, ⟨ps, hP, htr⟩, q2⟩ := h2
  refine ⟨I2.nolimit, ?_⟩
  have hPs : s2.heap.get? P = some { cls := .none, data := .fields ps } := I2.hok P _ hP
  have cd : PySem.W.CodeHd s2.heap c P := TB.code.keeps fun b u e => I2.bk b u e
  have cont : ∀ (code : Value) (h3 : Heap) (tk : Nat) (more : Array Value), Heap.ExtBut P s2.heap h3 → h3.get? P = some { cls := .none, data := .fields (ps ++ more) } → TriplesOk (ps ++ more).toList →
      wpAny (model X.prog X.w) X.A (builtinsFor X.env.globals X.env.builtins) (fun bi s₄ =>
        ∀ h', h'.Ns s₄.heap.objs.size (fun y => if y = ".0" then some (.ref it) else none) → Heap.SameBut s₄.heap.objs.size (s₄.heap.push { cls := .type "frame", data := .dict #[] }) h' →
          wpAny (model X.prog X.w) X.A (spliced (backTo pos (starEach [] X.env))) (fun vs s' => wpAny (model X.prog X.w) X.A (call (.builtin "all") (.ref h'.objs.size :: vs)) (EP X pins σ Q) X.xe s') X.xe { s₄ with
            gens := s₄.gens.push (.fresh (.compStart (.GeneratorExp elt [⟨tg, iter, [], 0⟩] scope gpos) 0 (.ref it) .none (genEnv scope (cloFrom X.env.cells scope.names []) s₄.heap.objs.size code bi X.env))),
            toks := s₄.toks + 1 + 1 + 1,
            heap := h'.push { cls := .type "generator", data := .fields #[.int s₄.gens.size 0, .str "<genexpr>" (s₄.toks + 1), .str (X.env.qual ++ "<genexpr>") (s₄.toks + 1 + 1)] } }) X.xe { s2 with heap := h3, toks := tk } := by
    intro code h3 tk more hx hP3 ht3
    obtain ⟨bm, ob, e1, e2, e3, e4, e5, e6, e7, e8⟩ := TB.bm
    have keep3 : ∀ b u, b ≠ P → s2.heap.get? b = some u → h3.get? b = some u := fun b u hb e => hx b u hb e
    refine wpAny_builtinsFor (m := X.mg) (by rw [I2.ok.glob]; exact (I2.mod.glob.keeps I2.bk).extBut hx TB.gP) e1 e2 (keep3 _ _ e4 (I2.bk _ _ e5)) e6 e7 e8 ?_
    have I3 : L2.Inv X pins σ (upd H1 P (.tbl (ps ++ more))) { s2 with heap := h3, toks := tk } := inv_tab (g' := s2.gens) (d' := s2.drawn) I2 hP (fun b o hb e => hx b o hb e) hP3 I2.bare
    obtain ⟨W, n, w0, turn⟩ := q2 (upd H1 P (.tbl (ps ++ more))) ⟨⟨_, upd_same, ht3⟩, fun b hb => upd_ne hb⟩
    generalize hH2 : upd H1 P (.tbl (ps ++ more)) = H2 at I3 w0
    generalize hs3 : ({ s2 with heap := h3, toks := tk } : Shared) = s3 at I3 ⊢
    have h3e : s3.heap = h3 := by rw [← hs3]
    have npf : ∀ b ∈ fp, b ≠ P := fun b hb z => by
      have := (f2 b hb).1
      rw [z, hP] at this
      cases this
    have st3 : tn 0 s3.heap := T.keep _ _ _ st2 fun b hb o e => by rw [h3e]; exact hx b o (npf b hb) e
    have f3 : ∀ b ∈ fp, FpOk X pins H2 b ∧ b < s3.heap.objs.size := fun b hb => by
      obtain ⟨o, e, _⟩ := T.obj _ _ st3 b hb
      refine ⟨⟨?_, (f2 b hb).2⟩, Heap.lt_size e⟩
      rw [← hH2, upd_ne (npf b hb)]
      exact (f2 b hb).1
    intro h' hn' hs'
    have hsz : h'.objs.size = s3.heap.objs.size + 1 := by rw [hs'.1, Heap.size_push]
    have keep' : ∀ b o, s3.heap.get? b = some o → h'.get? b = some o := fun b o e => hs'.extBut b o (Nat.ne_of_lt (Heap.lt_size e)) (Heap.get?_push_of_some _ e)
    generalize hoa : ({ cls := .type "generator", data := .fields #[.int s3.gens.size 0, .str "<genexpr>" (s3.toks + 1), .str (X.env.qual ++ "<genexpr>") (s3.toks + 1 + 1)] } : Obj) = oa
    have hisg : ∀ h : Heap, h.get? h'.objs.size = some oa → h.IsGen h'.objs.size s3.gens.size := fun h e => ⟨oa, _, _, e, by rw [← hoa], by rw [← hoa], by rw [← hoa]⟩
    have hga : (h'.push oa).get? h'.objs.size = some oa := Heap.get?_push_size _ (by rw [← hoa]; rfl)
    refine Calls.spliced_nil ?_
    generalize hcode' : (Code.compStart (.GeneratorExp elt [⟨tg, iter, [], 0⟩] scope gpos) 0 (.ref it) .none (genEnv scope (cloFrom X.env.cells scope.names []) s3.heap.objs.size code builtinsNs X.env)) = cc
    generalize hs5 : ({ s3 with gens := s3.gens.push (.fresh cc), toks := s3.toks + 1 + 1 + 1, heap := h'.push oa } : Shared) = s5
    have e5h : s5.heap = h'.push oa := by rw [← hs5]
    have e5g : s5.gens = s3.gens.push (.fresh cc) := by rw [← hs5]
    have bare5 : AllBare s5.gens := by rw [e5g]; exact I3.bare.push rfl
    have kp5 : ∀ b o, s3.heap.get? b = some o → s5.heap.get? b = some o := fun b o e => by rw [e5h]; exact Heap.get?_push_of_some _ (keep' b o e)
    have I5 := gen_start (A := X.A.in1.in1) (s1 := s5) (code := code) I3 ok hN f3 hr.hd I3.ok.frames (m := fun y => if y = ".0" then some (.ref it) else none) (by rw [e5h]; exact hn'.push _) kp5 (by rw [← hs5]) bare5 nocell
    have I6 := I5.pins_of (pins' := [(h'.objs.size, oa)]) fun q hq => by
      rw [List.mem_singleton] at hq
      subst hq
      refine ⟨by rw [e5h]; exact hga, I3.hok.fresh (by omega), by show h'.objs.size ≠ s3.heap.objs.size; omega, fun hm => ?_, fun v z => by rw [← hoa] at z; cases z⟩
      rcases List.mem_cons.mp (I3.stkSub _ hm) with z | z
      · have q := I3.lt
        rw [← z] at q
        exact Nat.lt_irrefl _ (Nat.lt_trans q (by rw [hsz]; exact Nat.lt_succ_self _))
      · exact I3.nofs (a := h'.objs.size) (by omega) z
    have na : ∀ b ∈ fp, h'.objs.size ≠ b := fun b hb z => by
      have q := (f3 b hb).2
      rw [← z] at q
      exact Nat.lt_irrefl _ (Nat.lt_trans q (by rw [hsz]; exact Nat.lt_succ_self _))
    have nf : ∀ b ∈ fp, H2 b = none := fun b hb => (f3 b hb).1.1
    have st5 : tn 0 s5.heap := T.keep _ _ _ st3 fun b _ o e => kp5 b o e
    have room := hr.in1.in1.deeper (gEnv X scope s3.heap.objs.size code (cloFrom X.env.cells scope.names []))
    have back : ∀ s1 H', L2.Inv (gx X s3 H2 (gEnv X scope s3.heap.objs.size code (cloFrom X.env.cells scope.names [])) fp X.A.in1.in1) [(h'.objs.size, oa)] (wipe σ (own.map (·.2))) H' s1 → L2.Inv X pins σ H' s1 := fun s1 H' J =>
      I3.call' (ch := fp) J.os J.base J.hok J.bare fun b hb => ⟨(f3 b hb).1.2.2.2.1, (f3 b hb).1.2.1, (f3 b hb).1.2.2.2.2.1, (f3 b hb).1.2.2.2.2.2⟩
    refine call_function_tree F.kind_all F.plain_all F.entry_all (F.args_all1 _) ?_
    unfold Builtin.«all»
    refine wpAny_bind (m := oneArg "all" _) (wpAny_pure ?_)
    refine wpAny_bind (wpAny_pyIter_gen (hisg _ (by rw [e5h]; exact hga)) ?_)
    refine wpAny_pure ⟨plainId_quiet F.plain_all_loop _, ?_⟩
    have grun : Cont s5 (s5.setGen s3.gens.size .running) := setGen_cont bare5 rfl
    refine all_loop (G := gx X s3 H2 (gEnv X scope s3.heap.objs.size code (cloFrom X.env.cells scope.names [])) fp X.A.in1.in1) (QT := Q (.bl true)) (QF := Q (.bl false)) (oa := oa) (g := s3.gens.size) hr.hd hr.depth hisg
      (fun s1 H' J q s2 c => ⟨.bl true, H', inv_cont (back s1 H' J) c, rfl, q⟩) (fun s1 H' J q s2 c => ⟨.bl false, H', inv_cont (back s1 H' J) c, rfl, q⟩)
      (n + 1) s5 (by rw [e5h]; exact hga) I5.nolimit bare5 ⟨.fresh cc, by rw [e5g]; exact Array.getElem?_push_size .., rfl, ?_⟩
    subst hcode'
    exact seg_start (σ := σ) (vs := own.map (·.2)) hco T na (hg _ _ _ _ _ _ _ room) (he _ _ _ _ _ _ _ room) turn (inv_cont I6 grun) (T.keep _ _ _ st5 fun b _ o e => grun.kp b o e) nf w0
  cases hf : codeAmong gpos ps.toList with
  | none =>
    refine wpAny_genexprCodeX hcode (cd.code hPs htr) (cd.tab hPs) hf fun c' h' tk hx hge hlt hco' _ htab' _ => ?_
    obtain ⟨o1, vs, f1, tf, fl, tg, inF, tx, tt, op, _, _, _, _, _, _, _, _, _, htr', _⟩ := hco'
    exact cont _ h' tk _ hx htab'.2 htr'
  | some cv =>
    refine wpAny_genexprCode_hit hcode (cd.code hPs htr) hf ?_
    exact cont cv s2.heap s2.toks #[] (Heap.ExtBut.refl _ _) (by simpa using hPs) (by simpa using htr)
end
end GX
end
section
set_option Elab.async false
set_option linter.all false
set_option maxRecDepth 100000
set_option maxHeartbeats 4000000
/-! all(..) of a generator expression, by data -/
namespace Pd
open PySem L2
def allF (vs : List Nat) (u : Tg) (e : Ev) : List D → Env → Option (Bool × Env)
  | [], ρ => some (true, ρ)
  | d :: ds, ρ => match u d ρ with
    | some ρ1 => match e ρ1 with
      | .ok r ρ2 => match look ρ2 r with
        | some (.bool b) => if b then allF vs u e ds (wipeE ρ2 vs) else some (false, wipeE ρ2 vs)
        | _ => none
      | _ => none
    | none => none
def eAllG (vs : List Nat) (u : Tg) (e : Ev) (i : EvI) : Ev := fun ρ => (i ρ).bdE fun ds ρ1 => match allF vs u e ds (wipeE ρ1 vs) with
  | some (b, ρ2) => .ok (.v (.bool b)) (unwipe ρ1 ρ2 vs)
  | none => .bad
section
variable {X : Cx} {B : Bs} {W : WX} {F F0 H : Hp} {σ σ' : L2.St} {ρ ρ0 : Env} {P : Addr} {Q : VK} {vs ws : List Nat} {u : Tg} {e : Ev} {i : EvI}
theorem St.tabbed (S : St B F σ H ρ) (hP : B.c.tb P) {H2 : Hp} (t : GxR.Tabbed P H H2) : St B F σ H2 ρ := by
  have np : ∀ q, ¬ B.c.tb q → q ≠ P := fun q h z => h (by rw [z]; exact hP)
  have fp : F P = none := S.tf P hP
  have ex : Ex F H2 := by
    refine ⟨fun p u r => ?_, fun p u k r => ?_⟩
    · have hne : p ≠ P := fun z => by
        unfold Rd at r
        rw [z, fp] at r
        simp at r
      have := S.ex.rd p u r
      unfold Rd at this ⊢
      rw [t.2 p hne]
      exact this
    · have hne : p ≠ P := fun z => by
        rw [z, fp] at r
        cases r
      rw [t.2 p hne]
      exact S.ex.tp p u k r
  refine S.growT (Ex.refl F) (fun q o h n => by rw [t.2 q (np q n)]; exact h) ex (fun _ _ h => h) (fun q h => ?_) fun q z => ?_
  · by_cases hq : q = P
    · subst hq
      obtain ⟨⟨ps, e, _⟩, _⟩ := t
      rw [e]
      exact Option.some_ne_none _
    · rw [t.2 q hq]; exact h
  · by_cases hq : q = P
    · subst hq; exact t.1
    · obtain ⟨ps, e, r⟩ := S.tab q z
      exact ⟨ps, by rw [t.2 q hq]; exact e, r⟩
theorem allG_ok (hP : B.c.tb P) (hv : ∀ j ∈ ws, j ∈ vs) (h : tE B W (eAllG vs u e i) σ H Q) : GX.tAllG P (tI B W i) (tG B ws u) (tE B WNo e) vs σ H Q := by
  obtain ⟨F, ρ, S, h⟩ := h
  refine ibdE_ok S h fun ds ρ1 F1 H1 J e1 S1 hJ h1 => ?_
  refine ⟨S1.tab P hP, fun H2 t => ?_⟩
  have S2 := S1.tabbed hP t
  cases ec : allF vs u e ds (wipeE ρ1 vs) with
  | none => simp only [ec] at h1; exact h1.elim
  | some w =>
    obtain ⟨b0, ρ2⟩ := w
    simp only [ec] at h1
    refine ⟨fun j m H' => ∃ F' ρ', Ex F1 F' ∧ St B F' (L2.wipe σ vs) H' ρ' ∧ allF vs u e (ds.drop j) ρ' = some (b0, ρ2) ∧ m = (ds.drop j).length, _, ⟨F1, wipeE ρ1 vs, Ex.refl _, S2.wipe vs, ec, rfl⟩, ?_⟩
    rintro j m H' ⟨F', ρ', e', S', cf, rfl⟩
    obtain ⟨go, stop⟩ := hJ F' H' e' S'.ex j
    cases ed : ds.drop j with
    | nil =>
      rw [ed, allF] at cf
      cases cf
      exact .inl ⟨stop (by simpa using ed), h1 F' H' _ e' (S1.unwipe e' S') (.bl true)⟩
    | cons d es =>
      have ed1 : ds[j]? = some d := by
        have := congrArg (·[0]?) ed
        simpa using this
      have ed2 : ds.drop (j + 1) = es := by
        have := congrArg (·.drop 1) ed
        simpa [List.drop_drop, Nat.add_comm] using this
      obtain ⟨g, yl⟩ := go d ed1
      rw [ed, allF] at cf
      refine .inr ⟨g, fun x H'' hy => ?_⟩
      obtain ⟨F2, g, r⟩ := yl x H'' hy
      cases eu : u d ρ' with
      | none => rw [eu] at cf; cases cf
      | some ρ3 =>
        rw [eu] at cf
        simp only at cf
        refine ⟨F2, ρ', d, ρ3, S'.grow g, r, eu, fun σ2 sm S3 => ?_⟩
        have ew := wipe_same sm hv
        refine ⟨ew, F2, ρ3, S3, ?_⟩
        cases k2 : e ρ3 with
        | ex _ _ => rw [k2] at cf; cases cf
        | bad => rw [k2] at cf; cases cf
        | ok r5 ρ5 =>
          rw [k2] at cf
          intro F5 H5 y x5 S5 R5
          simp only at cf
          cases k3 : look ρ5 r5 with
          | none => rw [k3] at cf; cases cf
          | some dv =>
            rw [k3] at cf
            have R6 := R5.rd S5 k3
            have e5 : Ex F1 F5 := (e'.trans g.f).trans x5
            have S6 : St B F5 (L2.wipe σ vs) H5 (wipeE ρ5 vs) := by
              rw [← ew]
              exact S5.wipe vs
            cases dv with
            | bool b =>
              have hb := R6.bool
              subst hb
              cases b with
              | true =>
                simp only [if_true] at cf
                exact ⟨true, rfl, fun z => Bool.noConfusion z, fun _ => ⟨es.length, Nat.lt_succ_self _, F5, wipeE ρ5 vs, e5, S6, by rw [ed2]; exact cf, by rw [ed2]⟩⟩
              | false =>
                simp only [Bool.false_eq_true, if_false] at cf
                cases cf
                exact ⟨false, rfl, fun _ => h1 F5 H5 _ e5 (S1.unwipe e5 S6) (.bl false), fun z => Bool.noConfusion z⟩
            | none => cases cf
            | int _ => cases cf
            | str _ => cases cf
            | list _ => cases cf
            | tuple _ => cases cf
            | dict _ => cases cf
theorem d_allG {c P : Addr} {elt tg iter : Expr} {p pos gpos : Pos} {scope : Scope} {own : List (Str × Nat)} {k : Nat} (hr : Room (k + 3) X.A) (hgl : Gl X "all") (hm : X.mg "all" = none) (hb : bootBuiltins "all" = some (.builtin "all")) (TB : GxR.TabB X.base X.mg c P) (hP : B.c.tb P) (hcode : X.env.code = .ref c)
    (hN : X.N.Nodup) (ok : BlkOk X.N X.env.scope scope own) (nocell : scope.names.all (fun y => !(y.2 == NameKind.cell)) = true) (dot : scope.names.lookup (".0" : Str) = some NameKind.local) (hco : scope.isCoroutine = false) (hi : PID X B W tg iter i) (hv : ∀ j ∈ ws, j ∈ own.map (·.2))
    (hg : ∀ (s : Shared) (H : Hp) (C : Addr) (code : Value) (cl : List (Str × Addr)) (fp : List Addr) (A : Around), Room k (A.deeper (GX.gEnv X scope C code cl)) → PGD (GX.gx X s H (GX.gEnv X scope C code cl) fp A) B tg ws u)
    (he : ∀ (s : Shared) (H : Hp) (C : Addr) (code : Value) (cl : List (Str × Addr)) (fp : List Addr) (A : Around), Room k (A.deeper (GX.gEnv X scope C code cl)) → PED (GX.gx X s H (GX.gEnv X scope C code cl) fp A) B WNo elt e)
    (hs : ∀ v, genFold iter X.env v = pure v := by intro _; rfl)
    (hst : starEach [.GeneratorExp elt [⟨tg, iter, [], 0⟩] scope gpos] X.env = (false, eval (.GeneratorExp elt [⟨tg, iter, [], 0⟩] scope gpos) X.env) :: starEach [] X.env := by rfl) :
    PED X B W (.Call (.Name "all" p) [.GeneratorExp elt [⟨tg, iter, [], 0⟩] scope gpos] [] pos) (eAllG (own.map (·.2)) u e i) :=
  pe_wk (GX.pe_allG hr hgl hm hb TB hcode hN ok (fun y hy z => by have := List.all_eq_true.mp nocell y hy; rw [z] at this; simp at this) dot hco hi hg he hs hst) fun σ H Q h => allG_ok hP hv h
/-! ### how it reads -/
@[simp] theorem y_allG {vs : List Nat} {u : Tg} {e : Ev} {i : EvI} {ρ : Env} : eAllG vs u e i ρ = (i ρ).bdE fun ds ρ1 => match allF vs u e ds (wipeE ρ1 vs) with
  | some (b, ρ2) => .ok (.v (.bool b)) (unwipe ρ1 ρ2 vs)
  | none => .bad := rfl
/-- each item's test by itself -/
theorem allF_map {α : Type} {vs : List Nat} {g : Tg} {e : Ev} {ρ : Env} (w : α → D) (f : α → Bool) : ∀ xs : List α,
    (∀ x ∈ xs, ∃ ρ1 r ρ2, g (w x) ρ = some ρ1 ∧ e ρ1 = .ok r ρ2 ∧ look ρ2 r = some (.bool (f x)) ∧ wipeE ρ2 vs = ρ) → allF vs g e (xs.map w) ρ = some (xs.all f, ρ)
  | [], _ => rfl
  | x :: xs, h => by
    obtain ⟨ρ1, r, ρ2, h1, h2, h3, h4⟩ := h x (List.mem_cons_self ..)
    have ih := allF_map w f xs fun y hy => h y (List.mem_cons_of_mem _ hy)
    rw [List.map_cons, allF, h1]
    simp only [h2, h3, h4]
    cases hf : f x with
    | true => rw [if_pos rfl, ih, List.all_cons, hf, Bool.true_and]
    | false => rw [if_neg Bool.false_ne_true, List.all_cons, hf, Bool.false_and]
end
end Pd
end
section
set_option Elab.async false
set_option linter.all false
set_option maxRecDepth 100000
set_option maxHeartbeats 4000000
/-! defs that hold a generator expression: their tables, the end of a law with such defs -/
namespace Pd
open PySem L2 PyProof.Rows L2H PySem.Spec
/-- a def whose code object stands at c -/
structure FunC (K : Frag) (x qual : Str) (st : Stmt) (f : Addr) (fd : FuncData) (c : Addr) : Prop where
  ex : ∃ (oc : Value) (od : Option Addr) (kV doc pm : Value) (an : Option Addr) (ct : Value) (osl : Array (Option Value)),
    fd = PySem.W.fnOf x qual (defArgs st) (defBody st) (defScope st) .none kV doc pm an (.ref c) ct ∧ K.lookup f = some ⟨oc, od, .func fd, osl⟩ ∧ PySem.W.codeIn K (.ref c) qual = true
section
variable {P : Program} {w : World} {K : Frag} {kt : Bool} {tb : Addr → Prop} {ec : String → Addr} {mg : Str → Option Value} {base : Heap} {k : Nat} {f c : Addr} {fd : FuncData} {x qual : Str} {st : Stmt} {N ps : List Str} {ms : List Bool} {b : Sv}
theorem FunC.of {oc : Value} {od an : Option Addr} {osl : Array (Option Value)} {kV doc pm cdv ct : Value} (l : K.lookup f = some ⟨oc, od, .func (PySem.W.fnOf x qual (defArgs st) (defBody st) (defScope st) .none kV doc pm an cdv ct), osl⟩)
    (hc : PySem.W.codeIn K cdv qual = true) (e : cdv = .ref c) : FunC K x qual st f (PySem.W.fnOf x qual (defArgs st) (defBody st) (defScope st) .none kV doc pm an cdv ct) c := by
  subst e
  exact ⟨oc, od, kV, doc, pm, an, ct, osl, rfl, l, hc⟩
theorem fnFG (Fu : FunC K x qual st f fd c) (S : FnScope N ps (defScope st)) (hm : ms.length = ps.length) (hN : ps.length ≤ N.length)
    (hb : ∀ (A : Around) (outer : List PySem.Env) (s : Shared) (H : Hp) (E : XK) (H0 F0 : Hp) (io : Nat → Option Addr) (hx : Addr) (hn : String), Room k (A.deeper (envOfC qual (defScope st) s.heap.objs.size f (.ref c))) →
      L2N.Takes (cxOf (L2N.CX P w) P w K mg base N qual (defScope st) f (.ref c) A outer s H E) (fun cls d _ H => E cls d H) →
      PassesOwn (model P w) (A.deeper (envOfC qual (defScope st) s.heap.objs.size f (.ref c))) (envOfC qual (defScope st) s.heap.objs.size f (.ref c)) (cxOf (L2N.CX P w) P w K mg base N qual (defScope st) f (.ref c) A outer s H E).xe →
      PSsD (cxOf (L2N.CX P w) P w K mg base N qual (defScope st) f (.ref c) A outer s H E) (mkB K kt tb ec H0 F0 io hx hn) (fun cls d _ H => E cls d H) (defBody st) b) :
    FnOk P w K mg base (L2N.CX P w) (k + 1) f fd ps (spD ⟨K, kt, tb⟩ ec ms (toFn N.length ms b)) := by
  obtain ⟨oc, od, kV, doc, pm, an, ct, osl, rfl, lk, hcd⟩ := Fu.ex
  refine fnD lk hcd S hm hN fun A outer s H E B hr hc he => ?_
  obtain ⟨c, H0, F0, io, ec', hx, hn⟩ := B
  subst hc
  subst he
  exact hb A outer s H E H0 F0 io hx hn hr (L2N.takes_of rfl rfl rfl rfl) PassesOwn.leaving
end
/-! ### tables -/
def isTab : Obj → Bool
  | ⟨.none, none, .fields vs, sl⟩ => vs.isEmpty && sl.isEmpty
  | _ => false
def noTab (K : Frag) : Bool := K.all fun q => !isTab q.2
theorem noTab_at {a : Addr} {o : Obj} (K : List (Addr × Obj)) (h : noTab K = true) (e : List.lookup a K = some o) : isTab o = false := by
  induction K with
  | nil => rw [List.lookup_nil] at e; cases e
  | cons p r ih =>
    obtain ⟨b, u⟩ := p
    unfold noTab at h ih
    rw [List.all_cons, Bool.and_eq_true] at h
    rw [List.lookup_cons] at e
    cases q : (a == b) with
    | true =>
      rw [q] at e
      simp only [Option.some.injEq] at e
      rw [← e]
      have h1 := h.1
      simp only [Bool.not_eq_true'] at h1
      exact h1
    | false =>
      rw [q] at e
      exact ih h.2 e
/-- a def's code object and its empty table -/
def TabAt (K : Frag) (h : Heap) (cd : Value) : Prop := ∃ c P, cd = .ref c ∧ PySem.W.CodeHd h c P ∧ h.get? P = some { cls := .none, data := .fields #[] } ∧ K.lookup P = none
/-- the law's end, with tables; P: the program -/
def LawAtT (P : Program) (w : World) (K : Frag) (CX : CXT) (k n : Nat) (x : Str) (mg : Str → Option Value) (fa : Addr) (h : Heap) : Prop :=
  ∃ (fd : FuncData) (cs : List (Addr × Addr)) (sp : Sp), (∀ p ∈ cs, h.get? p.2 = some { cls := .none, data := .fields #[] }) ∧ (∀ p ∈ cs, K.lookup p.2 = none) ∧ (∀ p ∈ cs, PySem.W.CodeHd h p.1 p.2) ∧ (∀ (s : Shared) (u : Value), BindsTo s fd ⟨[u], []⟩ [(x, u)]) ∧
    (∀ (H : Hp) (a : Addr) (ns : List Int), ns.length ≤ n → (∀ z ∈ ns, Builtin.Int.intBits z ≤ 1048576) → (∀ p ∈ cs, H p.2 = some (.tbl #[])) → SqL K H a (ns.map V.int) → sp [.ref a] H (fun v _ => v = .bl true) fun _ _ _ => False) ∧
    ∀ base : Heap, K.In base → base.Ns mainGlobals mg → (∀ p ∈ cs, GxR.TabB base mg p.1 p.2) → FnOk P w K mg base CX k fa fd [x] sp
theorem lawAt {P : Program} {w : World} {K : Frag} {kt : Bool} {CX : CXT} {k n : Nat} {mg : Str → Option Value} {fa : Addr} {h : Heap} {fd : FuncData} (cs : List (Addr × Addr)) (h1 : ∀ p ∈ cs, h.get? p.2 = some { cls := .none, data := .fields #[] }) (h2 : ∀ p ∈ cs, K.lookup p.2 = none) (h3 : ∀ p ∈ cs, PySem.W.CodeHd h p.1 p.2)
    (hb : ∀ (s : Shared) (u : Value), BindsTo s fd ⟨[u], []⟩ [("script", u)]) (F : ∀ base : Heap, K.In base → base.Ns mainGlobals mg → (∀ p ∈ cs, GxR.TabB base mg p.1 p.2) → FnOk P w K mg base CX k fa fd ["script"] (spLawT K n fun q => q ∈ cs.map (·.2))) :
    LawAtT P w K CX k n "script" mg fa h := by
  refine ⟨fd, cs, _, h1, h2, h3, hb, fun H a ns hl hbits hH hS => ⟨fun q hq => ?_, a, ns, rfl, hS, hl, hbits, fun _ => rfl⟩, F⟩
  obtain ⟨p, hp, rfl⟩ := List.mem_map.mp hq
  exact ⟨#[], hH p hp, by first | trivial | simp [TriplesOk]⟩
theorem walk_ofNames {l : PySem.W.OpenLaw} {n k : Nat} {q : Program} {loose : List Str} {XP : (Str → Option Value) → Heap → Prop} {YP : World → Heap → Prop} {d : DefRec} {K : Params → Frag} {CX : World → CXT} {x : Str} (names : List Str)
    (hn : l.most = some n) (hn2 : n ≤ sizeLine) (hdf : d.params.defaults = []) (hr : Room k callerA) (hrec : (names.all fun nm => (recsOf q).any fun e => e.name == nm) = true) (hY : ∀ (w : World) (h : Heap), YP w h → (K w.params).In h) (hK : ∀ w : World, noTab (K w.params) = true)
    (F : ∀ (w : World) (mg : Str → Option Value) (fa : Addr) (h : Heap), (K w.params).In h → h.Ns mainGlobals mg → mg d.name = some (.ref fa) →
      (∀ nm ∈ names, ∀ (f : Addr) (oc : Value) (od : Option Addr) (fd : FuncData) (sl : Array (Option Value)), mg nm = some (.ref f) → (K w.params).lookup f = some ⟨oc, od, .func fd, sl⟩ → TabAt (K w.params) h fd.code) → LawAtT l.prog w (K w.params) (CX w) k n x mg fa h)
    (hCX : ∀ (w : World) (H : Hp) (s : Shared) (e : Value) (s' : Shared), CX w [] H s (fun _ _ _ => False) e s' → False) :
    PySem.W.WalkO q loose XP YP l.row.toRowW d [] (fun f vs => PySem.call f vs) := by
  refine Att.attach_callB hn hdf fun w s₀ s₁ mg mb fa o pm cd doc a vs ns G Y ho hd hcd hmg hobj hints hlen hbits hg => ?_
  have KX := hY w _ Y
  have tabs : ∀ nm ∈ names, ∀ (f : Addr) (oc : Value) (od : Option Addr) (fd : FuncData) (sl : Array (Option Value)), mg nm = some (.ref f) → (K w.params).lookup f = some ⟨oc, od, .func fd, sl⟩ → TabAt (K w.params) s₁.heap fd.code := by
    intro nm hnm f oc od fd sl e1 e2
    obtain ⟨dL, hm, he⟩ := List.any_eq_true.mp (List.all_eq_true.mp hrec nm hnm)
    have he : dL.name = nm := beq_iff_eq.mp he
    obtain ⟨a', o', fd', c', P', g1, g2, g3, g4, g5, g6⟩ := G.T.tab dL hm
    rw [he, e1] at g1
    cases g1
    rw [KX _ _ e2] at g2
    cases g2
    cases g3
    have hP := g6.2
    refine ⟨c', P', g4, PySem.W.CodeHd.of g5 g6, hP, ?_⟩
    cases z : (K w.params).lookup P' with
    | none => rfl
    | some u =>
      have := KX _ _ z
      rw [hP] at this
      cases this
      exact absurd (noTab_at _ (hK w) z) (by decide)
  obtain ⟨fd, cs, sp, hT, nT, C, hb, hsp, hF⟩ := F w mg fa _ KX G.T.g hmg tabs
  exact LamX.law_callTs KX G.T.g G.T.b G.T.builtins G.T.nolimit hg hT nT C G.T.bmain hobj hints (Nat.le_trans hlen hn2) hr (fun base b1 b2 b3 => hF base b1 b2 fun p hp => ⟨(b3 p hp).code, (b3 p hp).bm, (b3 p hp).gP⟩) hb (fun H hH hS => hsp H a ns hlen hbits hH hS) fun H e s' => hCX w H s₁ e s'
end Pd
end
section
set_option Elab.async false
set_option linter.all false
set_option maxRecDepth 100000
set_option maxHeartbeats 4000000
/-! built-ins that were imported -/
namespace Pd
open PySem L2 PySem.Spec PyProof.Rows
section
variable {X : Cx} {B : Bs} {W : WX} {x : Expr} {xs : List Expr} {t : EvA} {pos : Pos}
theorem d_bltF {id : String} {r : List V → Hp → VK → Prop} {f : List D → Option Res} {nm : Str} {p : Pos} (hc : CallR X (.builtin id) r) (hf : CallD B.c r f) (hg : Gl X nm) (hm : X.mg nm = some (.builtin id)) (ht : PAD X B W (x :: xs) t)
    (hdb : (nm == ("__debug__" : Str)) = false := by decide)
    (he : starEach (x :: xs) X.env = (false, eval x X.env) :: starEach xs X.env := by rfl) (hpl : (backTo pos (starEach xs X.env)).any (·.1) = false := by rfl) : PED X B W (.Call (.Name nm p) (x :: xs) [] pos) (eBlt f t) :=
  pe_wk (pe_callBfun hc hg hm ht hdb he hpl) (blt_ok hf)
/-- a test that is an if-expression -/
def eIfT (t a b : EvT) : EvT := fun ρ => (t ρ).bd fun k ρ1 => match k with
  | true => a ρ1
  | false => b ρ1
theorem t_if {c y : Expr} {s t u : EvT} (hc : PTD X B W c s) (ha : PTD X B W x t) (hb : PTD X B W y u) : PTD X B W (.IfExp c x y pos) (eIfT s t u) := by
  refine ⟨fun pins sh σ H Q I h => ?_⟩
  show wpAny _ _ (do if ← isTrue c X.env (eval c X.env) then isTrue x X.env (eval x X.env) else isTrue y X.env (eval y X.env)) _ _ _
  obtain ⟨F, ρ, S, h⟩ := h
  refine wpAny_bind (thn (hc.run pins sh σ H (fun k H1 => if k = true then tT B W t σ H1 Q else tT B W u σ H1 Q) I (tbd_ok S h fun k ρ1 F1 H1 e1 S1 h1 => by
    cases k with
    | true => rw [if_pos rfl]; exact ⟨F1, ρ1, S1, h1⟩
    | false => rw [if_neg Bool.false_ne_true]; exact ⟨F1, ρ1, S1, h1⟩)) fun k s1 ⟨H1, I1, q1⟩ => ?_)
  cases k with
  | true => exact ha.run pins s1 σ H1 Q I1 q1
  | false => exact hb.run pins s1 σ H1 Q I1 q1
@[simp] theorem y_ifT {s t u : EvT} {ρ : Env} : eIfT s t u ρ = (s ρ).bd fun k ρ1 => match k with
  | true => t ρ1
  | false => u ρ1 := rfl
end
/-- i, i + c, .. (n of them) -/
def rngU (i c : Int) (n : Nat) : List D := (List.range n).map fun (k : Nat) => PyData.int (i + (k : Int) * c)
theorem rngU_len {i c : Int} {n : Nat} : (rngU i c n).length = n := by simp [rngU]
theorem rngU_get {i c : Int} {n k : Nat} {d : D} (h : (rngU i c n)[k]? = some d) : k < n ∧ d = .int (i + k * c) := by
  have hk := get_lt h
  rw [rngU_len] at hk
  unfold rngU at h
  rw [List.getElem?_map, List.getElem?_range hk] at h
  exact ⟨hk, (Option.some.inj h).symm⟩
theorem rng3_up {i j c : Int} (h : rngOk i = true) (h' : rngOk j = true) (hc : 0 < c) (hc' : c < 1073741824) : rng3 [.int i, .int j, .int c] = some (rngU i c ((j - i + c - 1) / c).toNat) := by
  have e : rng3 [.int i, .int j, .int c] = if c = -1 && (rngOk i && rngOk j) then some ((List.range (i - j).toNat).map fun (k : Nat) => PyData.int (i + (k : Int) * (-1)))
    else if (0 < c && c < 1073741824) && (rngOk i && rngOk j) then some (rngU i c ((j - i + c - 1) / c).toNat) else none := rfl
  rw [e, if_neg (by simp; omega), if_pos (by simp [h, h', hc, hc'])]
@[simp] theorem y_gcd {a b : Int} : fGcd [.int a, .int b] = some (.v (.int ((Nat.gcd a.natAbs b.natAbs : Nat) : Int))) := rfl
end Pd
end
section
set_option Elab.async false
set_option linter.all false
set_option maxRecDepth 100000
set_option maxHeartbeats 4000000
/-! a comprehension within a comprehension -/
namespace Pd
open PySem L2 PySem.Spec PyProof.Rows
theorem look_rl {env : PySem.Env} : ∀ {names : List (Str × NameKind)} {x : Str} {k0 : NameKind}, names.lookup x = some k0 →
    (names.map fun (n, k) => if (k == NameKind.free && env.scope.kind == .function && env.kindOf n == some .cell) then (n, NameKind.cell) else (n, k)).lookup x = some k0 ∨
    (names.map fun (n, k) => if (k == NameKind.free && env.scope.kind == .function && env.kindOf n == some .cell) then (n, NameKind.cell) else (n, k)).lookup x = some .cell
  | [], _, _, h => by simp at h
  | (n, k) :: r, x, k0, h => by
    have ih := @look_rl env r x k0
    show List.lookup x ((if (k == NameKind.free && env.scope.kind == .function && env.kindOf n == some .cell) = true then (n, NameKind.cell) else (n, k)) :: _) = _ ∨ List.lookup x ((if (k == NameKind.free && env.scope.kind == .function && env.kindOf n == some .cell) = true then (n, NameKind.cell) else (n, k)) :: _) = _
    cases hx : x == n with
    | true =>
      simp only [List.lookup_cons, hx] at h
      cases h
      by_cases hc : (k == NameKind.free && env.scope.kind == .function && env.kindOf n == some .cell) = true
      · rw [if_pos hc]; simp [List.lookup_cons, hx]
      · rw [if_neg hc]; simp [List.lookup_cons, hx]
    | false =>
      simp only [List.lookup_cons, hx] at h
      by_cases hc : (k == NameKind.free && env.scope.kind == .function && env.kindOf n == some .cell) = true
      · rw [if_pos hc]; simp only [List.lookup_cons, hx]; exact ih h
      · rw [if_neg hc]; simp only [List.lookup_cons, hx]; exact ih h
theorem blkN {N : List Str} {scope0 scope : Scope} {own : List (Str × Nat)} {cl : List (Str × Addr)} {C : Addr} {e : PySem.Env} (h : blkC N scope0 scope own = true) : BlkOk N (compEnvC scope0 cl C e).scope scope own := by
  have b := blkOk_by h
  refine ⟨b.kind, b.uniq, b.ix, fun y hy hf => ?_, b.own⟩
  have q : ∀ k, scope0.names.lookup y.1 = some k → (relabel scope0 e).names.lookup y.1 = some k ∨ (relabel scope0 e).names.lookup y.1 = some .cell := fun k hk => look_rl hk
  rcases b.free y hy hf with k | k
  · rcases q _ k with z | z
    · exact .inl z
    · exact .inl z
  · rcases q _ k with z | z
    · exact .inr z
    · exact .inl z
@[simp] theorem y_zip {t : EvA} {ρ : Env} : iZipD t ρ = (t ρ).bdI fun rs ρ1 => match frzs ρ1 rs with
  | some ([.list ds, .list es], ρ2) => .ok (zipD ds es) ρ2
  | some ([.tuple ds, .tuple es], ρ2) => .ok (zipD ds es) ρ2
  | some ([.list ds, .tuple es], ρ2) => .ok (zipD ds es) ρ2
  | _ => .bad := rfl
end Pd
end
section
set_option Elab.async false
set_option linter.all false
set_option maxRecDepth 100000
set_option maxHeartbeats 4000000
/-! dicts: displays, get -/
namespace Pd
open PySem L2
/-- {}, with keys that are ints and texts, or tuples of these -/
def eDctE (t : Bool) : Ev := fun ρ => .ok (.f (dct t [])) ρ
def fGet2 (t : Bool) (d k z : D) : Option Res := match asDct d with
  | some (u, kvs) => if keyOk u k && (t || !u) then some (.v ((dLook kvs k).getD z)) else none
  | none => none
def eGet2 (t : Bool) (o k z : Ev) : Ev := fun ρ => (o ρ).bd fun r ρ1 => match (look ρ1 r).bind asDct with
  | some _ => (k ρ1).bd fun r2 ρ2 => (z ρ2).bd fun r3 ρ3 => match r3 with
    | .v zd => match look ρ3 r, look ρ3 r2 with
      | some d, some kd => retOp ρ3 (fGet2 t d kd zd)
      | _, _ => .bad
    | _ => .bad
  | none => .bad
section
variable {X : Cx} {B : Bs} {W : WX} {x y z : Expr} {a b e : Ev} {pos apos cpos : Pos}
theorem d_dctK : PED X B W (.Dict [] [] pos) (eDctE false) := pe_wk pe_dnewK fun σ H Q ⟨F, ρ, S, h⟩ => fun p hp =>
  newOk S h (fun i z => nomatch z) F _ p (Grow.own S.ex hp) hp (S.ex.free hp) (.dK upd_same .nil)
theorem d_dctT : PED X B W (.Dict [] [] pos) (eDctE true) := pe_wk pe_dnewT fun σ H Q ⟨F, ρ, S, h⟩ => fun p hp =>
  newOk S h (fun i z => nomatch z) F _ p (Grow.own S.ex hp) hp (S.ex.free hp) (.dT upd_same .nil)
theorem isD_rdx {c : Ct} {F H : Hp} {d : D} {v : V} {q : Bool × List (D × D)} (e : Ex F H) (h : RdX c F H d v) (k : asDct d = some q) : ∃ a, v = .ref a ∧ IsD H a := by
  obtain ⟨u, kvs⟩ := q
  rw [asDct_eq k] at h
  rcases h.dict e with ⟨a, ws, _, rfl, r, _⟩ | ⟨a, ws, _, rfl, r, _⟩
  · exact ⟨a, rfl, .inl ⟨ws, r⟩⟩
  · exact ⟨a, rfl, .inr ⟨ws, r⟩⟩
theorem d_get2 {t : Bool} (hc : t = true → B.c.kt = false) (hu : X.A.units + 64 < cLine) (ho : PED X B W x a) (hk : PED X B W y b) (hz : PED X B W z e) (m : M2 X x "get" apos y z cpos) :
    PED X B W (.Call (.Attribute x "get" apos) [y, z] [] cpos) (eGet2 t a b e) :=
  pe_wk (pe_dget2 (by omega) ho hk hz m) fun σ H Q ⟨F, ρ, S, h⟩ => by
    refine bd_ok S h fun r1 ρ1 F1 H1 x e1 S1 R1 h1 => ?_
    obtain ⟨F1', e1', S1', R1'⟩ := R1.hold S1
    cases l0 : (look ρ1 r1).bind asDct with
    | none => simp only [l0] at h1; exact h1.elim
    | some q0 =>
      simp only [l0] at h1
      obtain ⟨d0, lk, k0⟩ := Option.bind_eq_some_iff.mp l0
      obtain ⟨a0, rfl, isd⟩ := isD_rdx S1.ex (R1.rd S1 lk) k0
      refine ⟨a0, rfl, isd, ?_⟩
      refine bd_ok S1' (h1.mono e1') fun r2 ρ2 F2 H2 y e2 S2 R2 h2 => ?_
      obtain ⟨F2', e2', S2', R2'⟩ := R2.hold S2
      have R1'' : ResOk B F2' σ H2 ρ2 r1.hold (.ref a0) := R1'.move hold_ne (e2.trans e2')
      refine bd_ok S2' (h2.mono e2') fun r3 ρ3 F3 H3 z e3 S3 R3 h3 => ?_
      have R1x : ResOk B F3 σ H3 ρ3 r1.hold (.ref a0) := R1''.move hold_ne e3
      have R2x : ResOk B F3 σ H3 ρ3 r2.hold y := R2'.move hold_ne e3
      cases r3 with
      | s i => exact h3.elim
      | f d => exact h3.elim
      | v zd =>
        simp only at h3
        cases l1 : look ρ3 r1 with
        | none => simp only [l1] at h3; exact h3.elim
        | some d1 =>
          cases l2 : look ρ3 r2 with
          | none => simp only [l1, l2] at h3; exact h3.elim
          | some d2 =>
            simp only [l1, l2] at h3
            cases l3 : fGet2 t d1 d2 zd with
            | none => rw [l3] at h3; exact h3.elim
            | some res =>
              rw [l3] at h3
              unfold fGet2 at l3
              cases l4 : asDct d1 with
              | none => rw [l4] at l3; cases l3
              | some q =>
                obtain ⟨u, kvs⟩ := q
                rw [l4] at l3
                simp only at l3
                split at l3
                · rename_i hk
                  rw [Bool.and_eq_true] at hk
                  cases l3
                  have rd1 := R1x.rd S3 (by rw [look_hold]; exact l1)
                  rw [asDct_eq l4] at rd1
                  have rd2 := R2x.rd S3 (by rw [look_hold]; exact l2)
                  obtain ⟨a1, o, ea, g, orep⟩ := dget_ok S3.ex (fun hu => hc (by rw [hu] at hk; simpa using hk.2)) hk.1 rd1 rd2
                  cases ea
                  have nk := newOk S3 h3 (fun i z => nomatch z)
                  refine ⟨o, g, NewOk.here S3.ex nk ?_⟩
                  generalize dLook kvs d2 = lk2 at orep ⊢
                  cases orep with
                  | none => exact R3
                  | some r => exact r
                · cases l3
end
/-! ### f() -/
section
open PySem.Spec PyProof.Rows
variable {X : Cx} {B : Bs} {W : WX} {p pos : Pos}
theorem d_call0 {k n : Nat} {g : Addr} {fd : FuncData} {ps : List Str} {nm : Str} {f : Fn} (Fo : FnOk X.prog X.w X.K X.mg X.base (L2N.CX X.prog X.w) k g fd ps (spD B.c B.ec (List.replicate n false) f)) (hr : Room k X.A) (hg : Gl X nm) (hm : X.mg nm = some (.ref g)) (hk : PySem.W.keepIn X.K (.ref g) = true)
    (hb : Binds X.K fd ps []) (tk : L2N.Takes X W) (hdb : (nm == ("__debug__" : Str)) = false := by decide) :
    PED X B W (.Call (.Name nm p) [] [] pos) (eCall n f aNil) := by
  refine ⟨fun pins s σ H Q I h => ?_⟩
  obtain ⟨F, ρ, S, h⟩ := call_ok h
  refine wpAny_Call_Name_kw (ld_glob I hg hm ?_ hdb)
  exact PySem.W.callWith_K0 I.kIn hk (run_fnSD (us := []) Fo hr hb .nil (L2N.passAt tk σ) I .nil (h F H [] (Ex.refl F) S .nil))
end
@[simp] theorem y_dctE {t : Bool} {ρ : Env} : eDctE t ρ = .ok (.f (dct t [])) ρ := rfl
@[simp] theorem y_get2 {t : Bool} {o k z : Ev} {ρ : Env} : eGet2 t o k z ρ = (o ρ).bd fun r ρ1 => match (look ρ1 r).bind asDct with
  | some _ => (k ρ1).bd fun r2 ρ2 => (z ρ2).bd fun r3 ρ3 => match r3 with
    | .v zd => match look ρ3 r, look ρ3 r2 with
      | some d, some kd => retOp ρ3 (fGet2 t d kd zd)
      | _, _ => .bad
    | _ => .bad
  | none => .bad := rfl
end Pd
end
section
set_option Elab.async false
set_option linter.all false
set_option maxRecDepth 100000
set_option maxHeartbeats 4000000
/-! places, tuples, truth values; comprehensions whose frame changes; dicts with int keys -/
namespace Pd
open PySem L2
@[simp] theorem at_0 {x : D} {xs : List D} : atI (x :: xs) 0 = some x := by simp [atI, ixN]
@[simp] theorem at_1 {x y : D} {xs : List D} : atI (x :: y :: xs) 1 = some y := by
  have h : ixN (x :: y :: xs).length 1 = some 1 := by
    unfold ixN
    rw [if_pos (by decide), if_pos (by simp; omega)]
    rfl
  unfold atI
  rw [h]
  rfl
@[simp] theorem y_tupL {ds : List D} : fTuple [.list ds] = some (.v (.tuple ds)) := rfl
@[simp] theorem y_neB {a b : Bool} : fNe (.bool a) (.bool b) = some (a != b) := by cases a <;> cases b <;> simp [fNe, fit, PyData.eqv]
@[simp] theorem y_eqB {a b : Bool} : fEq (.bool a) (.bool b) = some (a == b) := by cases a <;> cases b <;> simp [fEq, fit, PyData.eqv]
theorem ix_nat {n k : Nat} (h : k < n) : ixN n (k : Int) = some k := by
  unfold ixN
  rw [if_pos (by omega), if_pos (by omega)]
  rfl
theorem put_i {xs : List D} {k : Nat} {y : D} (h : k < xs.length) : fPut false (.list xs) (.int (k : Int)) y = some (.list (xs.set k y)) := by
  unfold fPut
  simp only [ix_nat h]
  rfl
theorem compF_inv {vs : List Nat} {g : Tg} {e : Ev} (I : Pd.Env → Prop) (G : D → Prop) : ∀ (ds : List D) {ρ : Pd.Env}, (∀ d ∈ ds, ∀ ρ, I ρ → ∃ ρ1 r ρ2 x ρ3, g d ρ = some ρ1 ∧ e ρ1 = .ok r ρ2 ∧ frzR ρ2 r = some (x, ρ3) ∧ G x ∧ I (wipeE ρ3 vs)) → I ρ →
    ∃ rs ρ', compF vs g tTrue e ds ρ = some (rs, ρ') ∧ I ρ' ∧ rs.length = ds.length ∧ ∀ x ∈ rs, G x
  | [], ρ, _, h0 => ⟨[], ρ, rfl, h0, rfl, fun x hx => nomatch hx⟩
  | d :: ds, ρ, h, h0 => by
    obtain ⟨ρ1, r, ρ2, x, ρ3, h1, h2, h3, h4, h5⟩ := h d (List.mem_cons_self ..) ρ h0
    obtain ⟨rs, ρ', g1, g2, g3, g4⟩ := compF_inv I G ds (fun d hd => h d (List.mem_cons_of_mem _ hd)) h5
    refine ⟨x :: rs, ρ', ?_, g2, by simp [g3], fun y hy => ?_⟩
    · rw [compF, h1]
      simp only [y_tTrue, h2, h3, g1]
    · rcases List.mem_cons.mp hy with rfl | hy
      · exact h4
      · exact g4 y hy
theorem compF_sub {vs : List Nat} {g : Tg} {c : EvT} {e : Ev} (I : Pd.Env → Prop) (h : D → D) : ∀ (ds : List D) {ρ : Pd.Env}, (∀ d ∈ ds, ∀ ρ, I ρ → ∃ ρ1 b ρ2, g d ρ = some ρ1 ∧ c ρ1 = .ok b ρ2 ∧ (b = false → I (wipeE ρ2 vs)) ∧ (b = true → ∃ r ρ3 ρ4, e ρ2 = .ok r ρ3 ∧ frzR ρ3 r = some (h d, ρ4) ∧ I (wipeE ρ4 vs))) → I ρ →
    ∃ rs ρ', compF vs g c e ds ρ = some (rs, ρ') ∧ I ρ' ∧ rs.Sublist (ds.map h)
  | [], ρ, _, h0 => ⟨[], ρ, rfl, h0, .slnil⟩
  | d :: ds, ρ, hh, h0 => by
    obtain ⟨ρ1, b, ρ2, h1, h2, h3, h4⟩ := hh d (List.mem_cons_self ..) ρ h0
    cases b with
    | false =>
      obtain ⟨rs, ρ', g1, g2, g3⟩ := compF_sub I h ds (fun d hd => hh d (List.mem_cons_of_mem _ hd)) (h3 rfl)
      refine ⟨rs, ρ', ?_, g2, List.Sublist.cons _ g3⟩
      rw [compF, h1]
      simp only [h2, g1]
    | true =>
      obtain ⟨r, ρ3, ρ4, k1, k2, k3⟩ := h4 rfl
      obtain ⟨rs, ρ', g1, g2, g3⟩ := compF_sub I h ds (fun d hd => hh d (List.mem_cons_of_mem _ hd)) k3
      refine ⟨h d :: rs, ρ', ?_, g2, List.Sublist.cons₂ _ g3⟩
      rw [compF, h1]
      simp only [h2, k1, k2, g1]
/-! ### dicts whose keys are ints -/
def ik (m : List (Int × D)) : List (D × D) := m.map fun q => (.int q.1, q.2)
def iLook (m : List (Int × D)) (k : Int) : Option D := (m.find? fun q => decide (q.1 = k)).map (·.2)
def iPut (m : List (Int × D)) (k : Int) (v : D) : List (Int × D) := if (m.any fun q => decide (q.1 = k)) = true then m.map (fun q => if q.1 = k then (q.1, v) else q) else m ++ [(k, v)]
theorem ik_look {m : List (Int × D)} {k : Int} : dLook (ik m) (.int k) = iLook m k := by
  unfold dLook ik iLook
  induction m with
  | nil => rfl
  | cons q m ih =>
    rw [List.map_cons, List.find?_cons, List.find?_cons]
    simp only [eqv_int]
    by_cases c : q.1 = k
    · simp [c]
    · simp only [c, decide_false]
      exact ih
theorem ik_any {m : List (Int × D)} {k : Int} : ((ik m).any fun kv => PyData.eqv kv.1 (.int k)) = m.any fun q => decide (q.1 = k) := by
  unfold ik
  rw [List.any_map]
  congr 1
theorem ik_put {m : List (Int × D)} {k : Int} {v : D} : dPut (ik m) (.int k) v = ik (iPut m k v) := by
  unfold dPut iPut
  rw [ik_any]
  by_cases c : (m.any fun q => decide (q.1 = k)) = true
  · rw [if_pos c, if_pos c]
    unfold ik
    rw [List.map_map, List.map_map]
    refine List.map_congr_left fun q _ => ?_
    simp only [Function.comp, eqv_int]
    by_cases e : q.1 = k <;> simp [e]
  · rw [if_neg c, if_neg c]
    unfold ik
    rw [List.map_append]
    rfl
theorem iLook_put {m : List (Int × D)} {k l : Int} {v : D} : iLook (iPut m k v) l = if l = k then some v else iLook m l := by
  unfold iPut
  by_cases c : (m.any fun q => decide (q.1 = k)) = true
  · rw [if_pos c]
    unfold iLook
    induction m with
    | nil => simp at c
    | cons q m ih =>
      rw [List.map_cons, List.find?_cons, List.find?_cons]
      by_cases e : q.1 = k
      · simp only [e, if_true]
        by_cases el : l = k
        · simp [el]
        · have : ¬ k = l := fun z => el z.symm
          simp only [this, decide_false, el, if_false]
          by_cases cm : (m.any fun q => decide (q.1 = k)) = true
          · have := ih cm
            rw [if_neg el] at this
            exact this
          · have : m.map (fun q => if q.1 = k then (q.1, v) else q) = m := by
              refine (List.map_congr_left fun x hx => ?_).trans (List.map_id m)
              rw [if_neg]
              · rfl
              · intro z
                exact cm (List.any_eq_true.mpr ⟨x, hx, by simp [z]⟩)
            rw [this]
      · simp only [e, if_false]
        have cm : (m.any fun q => decide (q.1 = k)) = true := by
          rw [List.any_cons] at c
          simpa [e] using c
        by_cases el : q.1 = l
        · have : ¬ l = k := by omega
          simp [el, this]
        · simp only [el, decide_false]
          exact ih cm
  · rw [if_neg c]
    unfold iLook
    rw [List.find?_append]
    have nf : ∀ x ∈ m, ¬ x.1 = k := fun x hx z => c (List.any_eq_true.mpr ⟨x, hx, by simp [z]⟩)
    by_cases el : l = k
    · have : m.find? (fun q => decide (q.1 = l)) = none := List.find?_eq_none.mpr fun x hx => by simp [el, nf x hx]
      rw [this, if_pos el]
      simp [el]
    · rw [if_neg el]
      have : ¬ k = l := fun z => el z.symm
      cases h : m.find? (fun q => decide (q.1 = l)) <;> simp [this]
theorem iPut_len {m : List (Int × D)} {k : Int} {v : D} : (iPut m k v).length ≤ m.length + 1 := by
  unfold iPut
  split
  · simp
  · simp
theorem ik_len {m : List (Int × D)} : (ik m).length = m.length := List.length_map _
theorem put_dI {m : List (Int × D)} {k : Int} {y : D} (h : lineOk (m.length + 1) = true) : fPut false (dct false (ik m)) (.int k) y = some (dct false (ik (iPut m k y))) := by
  have e : fPut false (dct false (ik m)) (.int k) y = if keyOk false (.int k) && (false || !false) && lineOk ((ik m).length + 1) then some (dct false (dPut (ik m) (.int k) y)) else none := rfl
  have kk : (keyOk false (PyData.int k) && (false || !false) && true) = true := rfl
  rw [e, ik_len, h, if_pos kk, ik_put]
theorem get2_dI {m : List (Int × D)} {k : Int} {z : D} : fGet2 false (dct false (ik m)) (.int k) z = some (.v ((iLook m k).getD z)) := by
  have e : fGet2 false (dct false (ik m)) (.int k) z = if keyOk false (.int k) && (false || !false) then some (.v ((dLook (ik m) (.int k)).getD z)) else none := rfl
  have kk : (keyOk false (PyData.int k) && (false || !false)) = true := rfl
  rw [e, if_pos kk, ik_look]
theorem in_dI {m : List (Int × D)} {k : Int} : fIn false (.int k) (dct false (ik m)) = some (iLook m k).isSome := by
  have e : fIn false (.int k) (dct false (ik m)) = if keyOk false (.int k) && (false || !false) then some (dLook (ik m) (.int k)).isSome else none := rfl
  have kk : (keyOk false (PyData.int k) && (false || !false)) = true := rfl
  rw [e, if_pos kk, ik_look]
theorem ix_dI {m : List (Int × D)} {k : Int} : fIx false (dct false (ik m)) (.int k) = (iLook m k).map .v := by
  have e : fIx false (dct false (ik m)) (.int k) = if keyOk false (.int k) && (false || !false) then (dLook (ik m) (.int k)).map .v else none := rfl
  have kk : (keyOk false (PyData.int k) && (false || !false)) = true := rfl
  rw [e, if_pos kk, ik_look]
@[simp] theorem as_dct {u : Bool} {kvs : List (D × D)} : asDct (.dict ((.none, .bool u) :: kvs)) = some (u, kvs) := rfl
theorem rngD_get {lo : Int} {n k : Nat} {d : D} (h : (rngD lo n)[k]? = some d) : k < n ∧ d = .int (lo + k) := by
  have hk := get_lt h
  rw [rngD_len] at hk
  unfold rngD at h
  rw [List.getElem?_map, List.getElem?_range hk] at h
  cases h
  exact ⟨hk, rfl⟩
theorem ik_has {m : List (Int × D)} {k : Int} : (dLook (ik m) (.int k)).isSome = (iLook m k).isSome := by rw [ik_look]
/-! ### pairs of ints -/
def prD (q : Int × Int) : D := .tuple [.int q.1, .int q.2]
theorem lt_pair (a b : Int × Int) : PySem.W.dataLt (prD a) (prD b) = decide (a.1 < b.1 ∨ a.1 = b.1 ∧ a.2 < b.2) := by
  have ai : ∀ x y : Int, PySem.W.alike (.int x) (.int y) = true := fun x y => by simp [PySem.W.alike]
  unfold prD
  rw [PySem.W.dataLt_tuple]
  by_cases c : a.1 = b.1
  · rw [PySem.W.dataLt_all_yes (ai _ _) (by rw [eqv_int, decide_eq_true c])]
    by_cases c2 : a.2 = b.2
    · rw [PySem.W.dataLt_all_yes (ai _ _) (by rw [eqv_int, decide_eq_true c2]), ← PySem.W.dataLt_tuple, show PySem.W.dataLt (.tuple []) (.tuple []) = false from rfl]
      simp [c, c2]
    · rw [PySem.W.dataLt_all_no (ai _ _) (by rw [eqv_int, decide_eq_false c2]), PySem.W.dataLt_int]
      simp [c]
  · rw [PySem.W.dataLt_all_no (ai _ _) (by rw [eqv_int, decide_eq_false c]), PySem.W.dataLt_int]
    simp [c]
theorem fit_pairs (n : Nat) (L : List (Int × Int)) : fitAll (n + 1) (L.map prD) = true := by
  induction L with
  | nil => rfl
  | cons q L ih =>
    rw [List.map_cons, fitAll, ih]
    rfl
theorem alikeB_pairs (L : List (Int × Int)) : alikeB (L.map prD) = true := by
  unfold alikeB
  have f := fit_pairs 59 L
  rw [f, Bool.and_true, Bool.and_eq_true, List.all_eq_true, List.all_eq_true]
  refine ⟨fun x hx => List.all_eq_true.mpr fun y hy => ?_, fun x hx => ?_⟩
  · obtain ⟨a, _, rfl⟩ := List.mem_map.mp hx
    obtain ⟨b, _, rfl⟩ := List.mem_map.mp hy
    simp [prD, PySem.W.alike, PySem.W.alikeAll]
  · obtain ⟨a, _, rfl⟩ := List.mem_map.mp hx
    rfl
theorem minD_first {d : D} : ∀ {ds : List D}, (∀ y ∈ ds, PySem.W.dataLt y d = false) → PySem.W.minD d ds = d
  | [], _ => rfl
  | y :: ds, h => by
    unfold PySem.W.minD
    rw [List.foldl_cons, h y (List.mem_cons_self ..), if_neg Bool.false_ne_true]
    exact minD_first fun z hz => h z (List.mem_cons_of_mem _ hz)
theorem min_pairs {q : Int × Int} {L : List (Int × Int)} (h : ∀ y ∈ L, q.1 < y.1) : fMin [.tuple (prD q :: L.map prD)] = some (.v (prD q)) := by
  have e : fMin [.tuple (prD q :: L.map prD)] = (minP (prD q :: L.map prD)).map .v := rfl
  have al := alikeB_pairs (q :: L)
  rw [List.map_cons] at al
  rw [e, minP, if_pos al, minD_first]
  · rfl
  · intro y hy
    obtain ⟨a, ha, rfl⟩ := List.mem_map.mp hy
    have := h a ha
    rw [lt_pair, decide_eq_false]
    omega
theorem ne_pairs0 (L : List (Int × Int)) : fNe (.tuple (L.map prD)) (.tuple []) = some (!decide (L = [])) := by
  have f : fit 60 (.tuple (L.map prD)) = true := by
    unfold fit
    exact fit_pairs 58 L
  have f0 : fit 60 (.tuple []) = true := rfl
  unfold fNe
  rw [f, f0]
  cases L with
  | nil => simp [PyData.eqv, PyData.eqvAll]
  | cons q L => simp [PyData.eqv, PyData.eqvAll]
end Pd
end
section
set_option Elab.async false
set_option linter.all false
set_option maxRecDepth 100000
set_option maxHeartbeats 4000000
/-! rows by place; loops that may end early; tuples of ints -/
namespace Pd
open PySem L2
def tab (g : Nat → D) (n : Nat) : List D := (List.range n).map g
section
variable {g g' : Nat → D} {n k : Nat}
theorem tab_len : (tab g n).length = n := by simp [tab]
theorem tab_succ : tab g (n + 1) = tab g n ++ [g n] := by
  unfold tab
  rw [List.range_succ, List.map_append]
  rfl
theorem tab_zero : tab g 0 = [] := rfl
theorem tab_cons : tab g (n + 1) = g 0 :: tab (fun j => g (j + 1)) n := by
  unfold tab
  rw [List.range_succ_eq_map, List.map_cons, List.map_map]
  rfl
theorem tab_get (h : k < n) : (tab g n)[k]? = some (g k) := by
  unfold tab
  rw [List.getElem?_map, List.getElem?_range h]
  rfl
theorem tab_i (h : k < n) : atI (tab g n) (k : Int) = some (g k) := atI_k (tab_get h)
theorem tab_eq (h : ∀ j, j < n → g j = g' j) : tab g n = tab g' n := by
  unfold tab
  exact List.map_congr_left fun j hj => h j (List.mem_range.mp hj)
theorem tab_mem {x : D} : x ∈ tab g n ↔ ∃ k, k < n ∧ x = g k := by
  unfold tab
  rw [List.mem_map]
  exact ⟨fun ⟨k, hk, e⟩ => ⟨k, List.mem_range.mp hk, e.symm⟩, fun ⟨k, hk, e⟩ => ⟨k, List.mem_range.mpr hk, e.symm⟩⟩
theorem tab_drop : (tab g n).drop k = tab (fun j => g (k + j)) (n - k) := by
  unfold tab
  refine List.ext_getElem (by simp) fun i h1 h2 => ?_
  simp
theorem tab_take : (tab g n).take k = tab g (min k n) := by
  unfold tab
  refine List.ext_getElem (by simp) fun i h1 h2 => ?_
  simp
theorem tab_int {f : Nat → Int} : tab (fun j => .int (f j)) n = ((List.range n).map f).map PyData.int := by
  unfold tab
  rw [List.map_map]
  rfl
theorem tab_zipIdx : enumD (tab g n) = tab (fun j => .tuple [.int (j : Nat), g j]) n := by
  unfold enumD tab
  refine List.ext_getElem (by simp) fun i h1 h2 => ?_
  simp
theorem tab_zip : zipD (tab g n) (tab g' n) = tab (fun j => .tuple [g j, g' j]) n := by
  unfold zipD tab
  refine List.ext_getElem (by simp) fun i h1 h2 => ?_
  simp
end
theorem rng_tab {lo : Int} {n : Nat} : rngD lo n = tab (fun j => .int (lo + (j : Nat))) n := rfl
/-- a loop over a row that may end early -/
theorem forF_or {t : Tg} {S : Sv} {f : Nat → D} {n : Nat} (I : Nat → Env → Prop) (R : Res → Prop) (h : ∀ i, i < n → ∀ ρ, I i ρ → ∃ ρ1, t (f i) ρ = some ρ1 ∧ ((∃ ρ2, (S ρ1 = .nx ρ2 ∨ S ρ1 = .ct ρ2) ∧ I (i + 1) ρ2) ∨ (∃ r ρ2, S ρ1 = .rt r ρ2 ∧ R r))) {ρ : Env} (h0 : I 0 ρ) :
    (∃ ρ', forF t S (tab f n) ρ = .nx ρ' ∧ I n ρ') ∨ (∃ r ρ', forF t S (tab f n) ρ = .rt r ρ' ∧ R r) := by
  induction n generalizing f I ρ with
  | zero => exact .inl ⟨ρ, rfl, h0⟩
  | succ n ih =>
    obtain ⟨ρ1, h1, h2⟩ := h 0 (Nat.succ_pos n) ρ h0
    rw [tab_cons, forF, h1]
    rcases h2 with ⟨ρ2, e | e, h3⟩ | ⟨r, ρ2, e, h3⟩
    · simp only [e]
      exact ih (f := fun j => f (j + 1)) (fun i => I (i + 1)) (fun i hi ρ hr => h (i + 1) (by omega) ρ hr) h3
    · simp only [e]
      exact ih (f := fun j => f (j + 1)) (fun i => I (i + 1)) (fun i hi ρ hr => h (i + 1) (by omega) ρ hr) h3
    · simp only [e]
      exact .inr ⟨r, ρ2, rfl, h3⟩
/-- a loop over a row -/
theorem forF_tab {t : Tg} {S : Sv} {f : Nat → D} {n : Nat} (I : Nat → Env → Prop) (h : ∀ i, i < n → ∀ ρ, I i ρ → ∃ ρ1 ρ2, t (f i) ρ = some ρ1 ∧ (S ρ1 = .nx ρ2 ∨ S ρ1 = .ct ρ2) ∧ I (i + 1) ρ2) {ρ : Env} (h0 : I 0 ρ) :
    ∃ ρ', forF t S (tab f n) ρ = .nx ρ' ∧ I n ρ' := by
  rcases forF_or I (fun _ => False) (fun i hi ρ hr => let ⟨ρ1, ρ2, a, b, c⟩ := h i hi ρ hr; ⟨ρ1, a, .inl ⟨ρ2, b, c⟩⟩) h0 with h | ⟨_, _, _, h⟩
  · exact h
  · exact h.elim
/-- a comprehension over a row, without a test -/
theorem compF_tab {vs : List Nat} {t : Tg} {e : Ev} {f g : Nat → D} {n : Nat} {ρ : Env} (h : ∀ i, i < n → ∃ ρ1 r ρ2 ρ3, t (f i) ρ = some ρ1 ∧ e ρ1 = .ok r ρ2 ∧ frzR ρ2 r = some (g i, ρ3) ∧ wipeE ρ3 vs = ρ) :
    compF vs t tTrue e (tab f n) ρ = some (tab g n, ρ) := by
  have := compF_map (vs := vs) (g := t) (c := tTrue) (e := e) (ρ := ρ) f (fun _ => true) g (List.range n) (fun i hi => by
    obtain ⟨ρ1, r, ρ2, ρ3, h1, h2, h3, h4⟩ := h i (List.mem_range.mp hi)
    exact ⟨ρ1, h1, ρ1, rfl, fun z => Bool.noConfusion z, fun _ => ⟨r, ρ2, ρ3, h2, h3, h4⟩⟩)
  rw [List.filter_eq_self.mpr (fun _ _ => rfl)] at this
  exact this
theorem compF_none {vs : List Nat} {g : Tg} {c : EvT} {e : Ev} {ρ : Pd.Env} : ∀ (ds : List D), (∀ d ∈ ds, ∃ ρ1 ρ2, g d ρ = some ρ1 ∧ c ρ1 = .ok false ρ2 ∧ wipeE ρ2 vs = ρ) → compF vs g c e ds ρ = some ([], ρ)
  | [], _ => rfl
  | d :: ds, h => by
    obtain ⟨ρ1, ρ2, h1, h2, h3⟩ := h d (List.mem_cons_self ..)
    rw [compF, h1]
    simp only [h2, h3]
    exact compF_none ds fun d hd => h d (List.mem_cons_of_mem _ hd)
theorem rngD_mem {lo : Int} {n : Nat} {d : D} (h : d ∈ rngD lo n) : ∃ k, k < n ∧ d = .int (lo + (k : Nat)) := by
  obtain ⟨k, hk⟩ := List.mem_iff_getElem?.mp h
  exact ⟨k, rngD_get hk⟩
/-! ### tuples of ints -/
theorem fit_ints_ (n : Nat) (zs : List Int) : fitAll n (zs.map PyData.int) = true := by
  induction zs with
  | nil => cases n <;> rfl
  | cons z zs ih =>
    rw [List.map_cons, fitAll, ih]
    cases n <;> rfl
theorem eq_tups (xs ys : List Int) : fEq (.tuple (xs.map PyData.int)) (.tuple (ys.map PyData.int)) = some (decide (xs = ys)) := by
  have f1 : ∀ zs : List Int, fit 60 (.tuple (zs.map PyData.int)) = true := fun zs => by
    unfold fit
    exact fit_ints_ 59 zs
  unfold fEq
  rw [f1, f1]
  simp [PyData.eqv, eqvAll_ints]
theorem ne_tups (xs ys : List Int) : fNe (.tuple (xs.map PyData.int)) (.tuple (ys.map PyData.int)) = some (!decide (xs = ys)) := by
  have f1 : ∀ zs : List Int, fit 60 (.tuple (zs.map PyData.int)) = true := fun zs => by
    unfold fit
    exact fit_ints_ 59 zs
  unfold fNe
  rw [f1, f1]
  simp [PyData.eqv, eqvAll_ints]
theorem in_ints (z : Int) (cs : List Int) : fIn false (.int z) (.tuple (cs.map PyData.int)) = some (decide (z ∈ cs)) := by
  have e : fIn false (.int z) (.tuple (cs.map PyData.int)) = if fit 60 (.int z) && fitAll 60 (cs.map PyData.int) then some ((cs.map PyData.int).any fun y => PyData.eqv y (.int z)) else none := rfl
  have f : fit 60 (.int z) = true := rfl
  rw [e, fit_ints_, f]
  show some ((cs.map PyData.int).any fun y => PyData.eqv y (.int z)) = _
  rw [List.any_map]
  congr 1
  rw [Bool.eq_iff_iff, List.any_eq_true, decide_eq_true_iff]
  simp only [Function.comp, eqv_int, decide_eq_true_iff]
  exact ⟨fun ⟨x, hx, e⟩ => e ▸ hx, fun h => ⟨z, h, rfl⟩⟩
theorem eq_strs {a b : Str} : fEq (.str a) (.str b) = some (decide (a = b)) := by
  simp [fEq, fit, PyData.eqv]
  by_cases h : a = b
  · subst h
    simp
  · simp [h]
theorem ne_strs {a b : Str} : fNe (.str a) (.str b) = some (!decide (a = b)) := by
  simp [fNe, fit, PyData.eqv]
  by_cases h : a = b
  · subst h
    simp
  · simp [h]
/-- the greatest of a row of ints -/
theorem max_tab {f : Nat → Int} {n : Nat} (h : 0 < n) : ∃ k, k < n ∧ (∀ j, j < n → f j ≤ f k) ∧ fMax [.list (tab (fun j => .int (f j)) n)] = some (.v (.int (f k))) := by
  obtain ⟨k, hk, h1, h2⟩ := max_ex f (xs := List.range n) (by
    intro z
    have := congrArg List.length z
    simp at this
    omega)
  exact ⟨k, List.mem_range.mp hk, fun j hj => h1 j (List.mem_range.mpr hj), h2⟩
/-- a comprehension over a row whose frame changes -/
theorem compF_invT {vs : List Nat} {t : Tg} {e : Ev} (I : Pd.Env → Prop) {f : Nat → D} {n : Nat} (G : Nat → D → Prop) {ρ : Pd.Env} (h : ∀ i, i < n → ∀ ρ, I ρ → ∃ ρ1 r ρ2 x ρ3, t (f i) ρ = some ρ1 ∧ e ρ1 = .ok r ρ2 ∧ frzR ρ2 r = some (x, ρ3) ∧ G i x ∧ I (wipeE ρ3 vs)) (h0 : I ρ) :
    ∃ g ρ', compF vs t tTrue e (tab f n) ρ = some (tab g n, ρ') ∧ I ρ' ∧ ∀ i, i < n → G i (g i) := by
  induction n generalizing f G ρ with
  | zero => exact ⟨fun _ => .none, ρ, rfl, h0, fun i hi => absurd hi (Nat.not_lt_zero _)⟩
  | succ n ih =>
    obtain ⟨ρ1, r, ρ2, x, ρ3, h1, h2, h3, h4, h5⟩ := h 0 (Nat.succ_pos n) ρ h0
    obtain ⟨g, ρ', g1, g2, g3⟩ := ih (f := fun j => f (j + 1)) (fun i => G (i + 1)) (fun i hi ρ hr => h (i + 1) (by omega) ρ hr) h5
    refine ⟨fun i => match i with | 0 => x | i + 1 => g i, ρ', ?_, g2, fun i hi => ?_⟩
    · rw [tab_cons, compF, h1]
      simp only [y_tTrue, h2, h3, g1]
      rw [tab_cons]
    · cases i with
      | zero => exact h4
      | succ i => exact g3 i (by omega)
def dInt : D → Int
  | .int v => v
  | _ => 0
def dSnd : D → Int
  | .tuple [_, .int v] => v
  | _ => 0
theorem tab_ints {g : Nat → D} {n : Nat} (h : ∀ i, i < n → ∃ v, g i = .int v) : tab g n = tab (fun i => .int (dInt (g i))) n := tab_eq fun i hi => by
  obtain ⟨v, hv⟩ := h i hi
  rw [hv]
  rfl
/-- sorted ints, as a row -/
theorem sort_tab {f : Nat → Int} {n : Nat} (Q : Int → Prop) (h : ∀ i, i < n → Q (f i)) : ∃ l : Nat → Int, fSortI [.list (tab (fun i => .int (f i)) n)] = some (.f (.list (tab (fun i => .int (l i)) n))) ∧ (∀ i, i < n → Q (l i)) ∧ ∀ i, i + 1 < n → l i ≤ l (i + 1) := by
  obtain ⟨ns, hns⟩ : ∃ ns, ns = sortI ((List.range n).map f) := ⟨_, rfl⟩
  have pm := sortI_perm ((List.range n).map f)
  have od := sortI_ord ((List.range n).map f)
  rw [← hns] at pm od
  have len : ns.length = n := by rw [pm.length_eq, List.length_map, List.length_range]
  have el : ns = (List.range n).map fun i => ns.getD i 0 := by
    refine List.ext_getElem (by simp [len]) fun i h1 h2 => ?_
    simp [h1]
  refine ⟨fun i => ns.getD i 0, ?_, fun i hi => ?_, fun i hi => ?_⟩
  · have ei : asInts (tab (fun i => .int (f i)) n) = some ((List.range n).map f) := asInts_of f _
    have e : fSortI [.list (tab (fun i => .int (f i)) n)] = match asInts (tab (fun i => .int (f i)) n) with
      | some ns => some (.f (.list ((sortI ns).map PyData.int)))
      | _ => (sortP (tab (fun i => .int (f i)) n)).map fun es => .f (.list es) := rfl
    rw [e, ei]
    show some (Res.f (.list ((sortI ((List.range n).map f)).map PyData.int))) = _
    rw [← hns, tab_int, ← el]
  · have m : ns.getD i 0 ∈ (List.range n).map f := by
      rw [← pm.mem_iff, List.getD_eq_getElem?_getD, List.getElem?_eq_getElem (by omega)]
      exact List.getElem_mem _
    obtain ⟨j, hj, e⟩ := List.mem_map.mp m
    show Q (ns.getD i 0)
    rw [← e]
    exact h j (List.mem_range.mp hj)
  · have := List.pairwise_iff_getElem.mp od i (i + 1) (by omega) (by omega) (by omega)
    simp only [List.getD_eq_getElem?_getD]
    rw [List.getElem?_eq_getElem (by omega), List.getElem?_eq_getElem (by omega)]
    exact this
/-- the sum of a row of ints -/
theorem sum_tab {f : Nat → Int} {n : Nat} : fSum [.list (tab (fun i => .int (f i)) n)] = some (.v (.int ((List.range n).map f).sum)) := by
  have ei : asInts (tab (fun i => .int (f i)) n) = some ((List.range n).map f) := asInts_of f _
  have e : fSum [.list (tab (fun i => .int (f i)) n)] = match asInts (tab (fun i => .int (f i)) n) with
    | some ns => some (.v (.int ns.sum))
    | _ => none := rfl
  rw [e, ei]
theorem rep_ok {x : D} {k : Nat} (hk : k ≤ 1000) : fMul (.tuple [x]) (.int (k : Int)) = some (.v (.tuple (List.replicate k x))) := by
  have e : fMul (.tuple [x]) (.int (k : Int)) = if (decide ((k : Int) = 1) || decide ([x] = [])) && (decide (-1000000000 ≤ (k : Int)) && decide ((k : Int) ≤ 1000000000)) then some (.v (.tuple [x])) else if decide ((k : Int) ≤ 0) && (decide ([x] ≠ []) && decide (-1000000000 ≤ (k : Int))) then some (.v (.tuple [])) else
    if decide ([x] ≠ []) && decide (2 ≤ (k : Int)) && decide ((k : Int) ≤ 1000) && decide ([x].length ≤ 1000) then some (.v (.tuple (List.replicate (k : Int).toNat [x]).flatten)) else none := rfl
  have e1 : ((k : Int)).toNat = k := by omega
  have e2 : ∀ k : Nat, (List.replicate k [x]).flatten = List.replicate k x := fun k => by
    induction k with
    | zero => rfl
    | succ k ih => rw [List.replicate_succ, List.flatten_cons, ih, List.replicate_succ]; rfl
  rw [e, e1, e2]
  by_cases c1 : k = 1
  · subst c1
    rfl
  · have d1 : ¬ ((k : Int) = 1) := by omega
    by_cases c0 : k = 0
    · subst c0
      rfl
    · have d0 : ¬ ((k : Int) ≤ 0) := by omega
      have d2 : 2 ≤ (k : Int) := by omega
      have d3 : (k : Int) ≤ 1000 := by omega
      simp [d1, d0, d2, d3]
end Pd
end
section
set_option Elab.async false
set_option linter.all false
set_option maxRecDepth 100000
set_option maxHeartbeats 4000000
/-! displays of dicts: {k: v, ..}, of constants and variables -/
namespace Pd
open PySem L2
/-- what a constant, or a variable, is worth -/
def gC (d : D) : Env → Option D := fun _ => some d
def gVar (i : Nat) : Env → Option D := fun ρ => match ρ[i]? with
  | some (.v d) => some d
  | _ => none
def evD : List ((Env → Option D) × (Env → Option D)) → Env → Option (List (D × D))
  | [], _ => some []
  | (a, b) :: gs, ρ => match a ρ, b ρ, evD gs ρ with
    | some k, some v, some r => if (toK k).isSome then some ((k, v) :: r) else none
    | _, _, _ => none
def putsD (kvs more : List (D × D)) : List (D × D) := more.foldl (fun acc kv => dPut acc kv.1 kv.2) kvs
def eDisp (gs : List ((Env → Option D) × (Env → Option D))) : Ev := fun ρ => match evD gs ρ with
  | some r => .ok (.f (dct false (putsD [] r))) ρ
  | none => .bad
structure PUD (X : Cx) (B : Bs) (x : Expr) (g : Env → Option D) : Prop where
  ex : ∃ te, PE X x te ∧ ∀ {F H : Hp} {σ : L2.St} {ρ : Env} {d : D} (Q : VK) (H' : Hp), St B F σ H ρ → g ρ = some d → (∀ z, Rep B.c F d z → Q z H') → te σ H' Q
inductive RepP (c : Ct) (F : Hp) : List (D × D) → List (Key × V) → Prop
  | nil : RepP c F [] []
  | cons {k : Key} {d : D} {v : V} {kvs : List (D × D)} {ws : List (Key × V)} : Rep c F d v → RepP c F kvs ws → RepP c F ((kD k, d) :: kvs) ((k, v) :: ws)
structure PUs (X : Cx) (B : Bs) (pos : Pos) (keys : List (Option Expr)) (values : List Expr) (gs : List ((Env → Option D) × (Env → Option D))) : Prop where
  ex : ∃ trs, PPs X pos keys values trs ∧ keys.length = values.length ∧ keys.length = gs.length ∧ keys.all (·.isSome) = true ∧
    ∀ {F H : Hp} {σ : L2.St} {ρ : Env} {kvs : List (D × D)} (R : List (V × V) → Hp → Prop) (H' : Hp), St B F σ H ρ → evD gs ρ = some kvs → (∀ ws, RepP B.c F kvs ws → R (ws.map fun kv => (kV kv.1, kv.2)) H') → tPairs trs σ H' R
section
variable {X : Cx} {B : Bs} {W : WX} {x y : Expr} {a b : Env → Option D} {pos : Pos}
theorem u_c {d : D} {v : V} (h : PE X x (tC v)) (r : ∀ F, Rep B.c F d v) : PUD X B x (gC d) := ⟨tC v, h, fun Q H' S e k => by
  cases e
  exact k v (r _)⟩
theorem u_int {i : Int} {j : Nat} : PUD X B (.Constant (.int i) j pos) (gC (.int i)) := u_c pe_int fun _ => .int i
theorem u_bl {i : Bool} {j : Nat} : PUD X B (.Constant (.bool i) j pos) (gC (.bool i)) := u_c pe_bl fun _ => .bl i
theorem u_non {j : Nat} : PUD X B (.Constant .none j pos) (gC .none) := u_c pe_non fun _ => .non
theorem u_str {s : Str} {j : Nat} : PUD X B (.Constant (.str s) j pos) (gC (.str s)) := u_c pe_str fun _ => .str s
theorem u_var {i : Nat} (h : PE X x (tVar i)) : PUD X B x (gVar i) := ⟨tVar i, h, fun {F H σ ρ d} Q H' S e k => by
  unfold gVar at e
  cases e0 : ρ[i]? with
  | none => rw [e0] at e; cases e
  | some s =>
    rw [e0] at e
    have hl : i < σ.length := by rw [S.len]; exact (List.getElem?_eq_some_iff.mp e0).1
    have hs := S.sl i s _ e0 (List.getElem?_eq_getElem hl)
    cases s with
    | v d' =>
      cases e
      obtain ⟨v, e1, e2⟩ := hs
      exact ⟨v, by rw [List.getElem?_eq_getElem hl, e1], k v e2⟩
    | _ => cases e⟩
theorem us_nil : PUs X B pos [] [] [] := ⟨[], pps_nil, rfl, rfl, rfl, fun R H' S e k => by
  cases e
  exact k [] .nil⟩
theorem rep_key {c : Ct} {F : Hp} {k : Key} {z : V} (h : Rep c F (kD k) z) : z = kV k := by
  cases k <;> cases h <;> rfl
theorem us_cons {ks : List (Option Expr)} {vs : List Expr} {gs : List ((Env → Option D) × (Env → Option D))} (hk : PUD X B x a) (hv : PUD X B y b) (hr : PUs X B pos ks vs gs) : PUs X B pos (some x :: ks) (y :: vs) ((a, b) :: gs) := by
  obtain ⟨tk, pk, qk⟩ := hk.ex
  obtain ⟨tv, pv, qv⟩ := hv.ex
  obtain ⟨trs, ps, l1, l2, al, qs⟩ := hr.ex
  refine ⟨(tk, tv) :: trs, pps_cons pk pv ps, by simp [l1], by simp [l2], by simpa using al, fun {F H σ ρ kvs} R H' S e k => ?_⟩
  unfold evD at e
  cases e1 : a ρ with
  | none => rw [e1] at e; cases e
  | some kd =>
    cases e2 : b ρ with
    | none => rw [e1, e2] at e; cases e
    | some vd =>
      cases e3 : evD gs ρ with
      | none => rw [e1, e2, e3] at e; cases e
      | some r =>
        rw [e1, e2, e3] at e
        simp only at e
        cases e4 : toK kd with
        | none => rw [e4] at e; simp at e
        | some key =>
          rw [e4] at e
          simp only [Option.isSome_some, if_true] at e
          cases e
          refine qk _ H' S e1 fun z rz => qv _ H' S e2 fun w rw' => qs _ H' S e3 fun ws rws => ?_
          have ek := toK_kD e4
          subst ek
          rw [rep_key rz]
          exact k ((key, w) :: ws) (.cons rw' rws)
theorem RepP.merge {c : Ct} {F : Hp} {more : List (D × D)} {us : List (Key × V)} (h : RepP c F more us) : ∀ {kvs : List (D × D)} {ws : List (Key × V)}, RepK c F kvs ws → RepK c F (putsD kvs more) (mergeK ws us) := by
  induction h with
  | nil => exact fun r => r
  | cons h _ ih => exact fun r => ih (r.put h)
theorem RepP.len {c : Ct} {F : Hp} {more : List (D × D)} {us : List (Key × V)} (h : RepP c F more us) : us.length = more.length := by
  induction h with
  | nil => rfl
  | cons _ _ ih => simp [ih]
theorem evD_len : ∀ {gs : List ((Env → Option D) × (Env → Option D))} {ρ : Env} {kvs : List (D × D)}, evD gs ρ = some kvs → kvs.length = gs.length
  | [], _, _, e => by cases e; rfl
  | (a, b) :: gs, ρ, kvs, e => by
    unfold evD at e
    split at e
    · rename_i h3
      split at e
      · cases e
        simp [evD_len h3]
      · cases e
    · cases e
theorem d_disp {keys : List (Option Expr)} {values : List Expr} {gs : List ((Env → Option D) × (Env → Option D))} (h : PUs X B pos keys values gs) (h0 : keys ≠ []) (h15 : keys.length ≤ 15) : PED X B W (.Dict keys values pos) (eDisp gs) := by
  obtain ⟨trs, ps, l1, l2, al, qs⟩ := h.ex
  refine pe_wk (pe_disp ps al l1 h0 h15) fun σ H Q ⟨F, ρ, S, hq⟩ => fun p hp => ?_
  unfold eDisp at hq
  cases e : evD gs ρ with
  | none => rw [e] at hq; exact hq.elim
  | some kvs =>
    rw [e] at hq
    refine qs _ _ S e fun ws rws => ⟨upd_same, ws, rfl, ?_, ?_⟩
    · rw [rws.len, evD_len e, ← l2]
      exact h15
    · rw [upd_upd]
      exact newOk S hq (fun i z => nomatch z) F _ p (Grow.own S.ex hp) hp (S.ex.free hp) (.dK upd_same (rws.merge .nil))
end
@[simp] theorem y_disp {gs : List ((Env → Option D) × (Env → Option D))} {ρ : Env} : eDisp gs ρ = match evD gs ρ with
  | some r => .ok (.f (dct false (putsD [] r))) ρ
  | none => .bad := rfl
@[simp] theorem y_gC {d : D} {ρ : Env} : gC d ρ = some d := rfl
@[simp] theorem y_gVar {i : Nat} {ρ : Env} : gVar i ρ = match ρ[i]? with
  | some (.v d) => some d
  | _ => none := rfl
end Pd
end
section
set_option Elab.async false
set_option linter.all false
set_option maxRecDepth 100000
set_option maxHeartbeats 4000000
/-! a list comprehension with two fors -/
namespace Pd
open PySem L2
def compF2 (vs : List Nat) (u : Tg) (c : EvT) (i1 : EvI) (vs1 : List Nat) (u1 : Tg) (c1 : EvT) (e : Ev) : List D → Env → Option (List D × Env)
  | [], ρ => some ([], ρ)
  | d :: ds, ρ => match u d ρ with
    | some ρ1 => match c ρ1 with
      | .ok true ρ2 => match i1 ρ2 with
        | .ok ds1 ρ3 => match compF vs1 u1 c1 e ds1 (wipeE ρ3 vs1) with
          | some (bs, ρ4) => match compF2 vs u c i1 vs1 u1 c1 e ds (wipeE ρ4 vs) with
            | some (cs, ρ5) => some (bs ++ cs, ρ5)
            | none => none
          | none => none
        | _ => none
      | .ok false ρ2 => compF2 vs u c i1 vs1 u1 c1 e ds (wipeE ρ2 vs)
      | _ => none
    | none => none
noncomputable def eLc2 (vs : List Nat) (u : Tg) (c : EvT) (i1 : EvI) (vs1 : List Nat) (u1 : Tg) (c1 : EvT) (e : Ev) (i : EvI) : Ev := fun ρ => (i ρ).bdE fun ds ρ1 => match compF2 vs u c i1 vs1 u1 c1 e ds (wipeE ρ1 vs) with
  | some (rs, ρ2) => if lineOk rs.length then .ok (.f (.list rs)) (Pd.unwipe ρ1 ρ2 vs) else .bad
  | none => .bad
def tIU (B : Bs) (i : EvI) : TI := fun σ H R => ∃ H0 F0, tI (B.rb H0 F0) WNo i σ H R
theorem pi_ex {X : Cx} {tg e : Expr} {B : Bs} {i : EvI} (h : ∀ H0 F0, PID X (B.rb H0 F0) WNo tg e i) : PI X tg e (tIU B i) := ⟨fun pins s σ H Q I q => by
  obtain ⟨H0, F0, q⟩ := q
  exact (h H0 F0).run pins s σ H Q I q⟩
theorem wipe_in {σ : L2.St} {vs1 vs : List Nat} (h : ∀ j ∈ vs1, j ∈ vs) : L2.wipe (L2.wipe σ vs1) vs = L2.wipe σ vs := by
  refine List.ext_getElem? fun j => ?_
  rw [wipe_at, wipe_at, wipe_at]
  by_cases a : j ∈ vs
  · rw [if_pos a, if_pos a]
    split
    · cases σ[j]? <;> rfl
    · rfl
  · rw [if_neg a, if_neg a, if_neg fun z => a (h j z)]
section
variable {X : Cx} {B : Bs} {W : WX} {F F0 H : Hp} {σ σ' : L2.St} {ρ ρ0 : Env} {Q : VK} {vs vs1 ws ws1 : List Nat} {u u1 : Tg} {c c1 : EvT} {e : Ev} {i i1 : EvI}
theorem lc2_ok (hv : ∀ j ∈ ws, j ∈ vs) (hv1 : ∀ j ∈ ws1, j ∈ vs1) (h1v : ∀ j ∈ vs1, j ∈ vs) (h : tE B W (eLc2 vs u c i1 vs1 u1 c1 e i) σ H Q) : tLc2 (tI B W i) (tGU B ws u) (tTU B c) (tIU B i1) (tGU B ws1 u1) (tTU B c1) (tEU B e) vs vs1 σ H Q := by
  obtain ⟨F, ρ, S, h⟩ := h
  refine ibdE_ok S h fun ds ρ1 F1 H1 J e1 S1 hJ h1 => ?_
  intro L hL
  cases ec : compF2 vs u c i1 vs1 u1 c1 e ds (wipeE ρ1 vs) with
  | none => rw [ec] at h1; exact h1.elim
  | some q =>
    obtain ⟨rs, ρ2⟩ := q
    rw [ec] at h1
    simp only at h1
    split at h1
    · rename_i hz
      have h0 : B.H0 L = none := S1.fresh hL
      have hFL : F1 L = none := S1.ex.free hL
      have hf : B.F0 L = none := S1.low.free hFL
      have iow := S1.iow
      have tb0 := S1.tb0
      refine ⟨fun j m H' => ∃ F' ρ' as xs bs, Ex F1 F' ∧ St (B.rb (upd B.H0 L (.lst xs)) B.F0) F' (L2.wipe σ vs) H' ρ' ∧ Reps B.c F' as xs ∧ compF2 vs u c i1 vs1 u1 c1 e (ds.drop j) ρ' = some (bs, ρ2) ∧ as ++ bs = rs ∧ m = (ds.drop j).length,
        ⟨_, F1, wipeE ρ1 vs, [], [], rs, Ex.refl _, ?_, .nil, ec, rfl, rfl⟩, ?_⟩
      · have S2 := (S1.grow (Grow.own (o := .lst []) S1.ex hL)).wipe vs
        refine S2.held upd_same hFL h0 fun j s h2 h3 h4 => ?_
        have S3 := S1.wipe vs
        have q := S3.sl j s _ h2 h4
        cases e : s.mine with
        | none => exact h3 e
        | some d =>
          obtain ⟨a, z1, _, z3⟩ := q.mine e
          cases z1
          exact z3.there hL
      · rintro j m H' ⟨F', ρ', as, xs, bs, e', S', ra, cf, rfl, rfl⟩
        obtain ⟨go, stop⟩ := hJ F' H' e' S'.ex j
        cases ed : ds.drop j with
        | nil =>
          refine .inl ⟨stop (by simpa using ed), ?_⟩
          rw [ed, compF2] at cf
          cases cf
          obtain ⟨S3, hp, hF, off⟩ := S'.unheld h0 hf iow tb0
          have S4 := S1.unwipe e' S3
          refine h1 F' H' _ e' S4 ⟨L, rfl, hF, h0, .lst hp (by rw [List.append_nil]; exact ra), fun i s h2 h3 h4 => ?_⟩
          rw [unwipe_at] at h2
          by_cases hi : i ∈ vs
          · rw [if_pos hi, Option.map_eq_some_iff] at h2
            obtain ⟨_, _, rfl⟩ := h2
            exact h3 (backS_mine _)
          · rw [if_neg hi] at h2
            exact off i s h2 h3 (by rw [wipe_at, if_neg hi]; exact h4)
        | cons d es =>
          obtain ⟨ed1, ed2⟩ := drop_at ed
          obtain ⟨go, yl⟩ := go d ed1
          rw [ed, compF2] at cf
          refine .inr ⟨go, fun H' => ∃ F' ρ' as' xs bs', Ex F1 F' ∧ St (B.rb (upd B.H0 L (.lst xs)) B.F0) F' (L2.wipe σ vs) H' ρ' ∧ Reps B.c F' as' xs ∧ compF2 vs u c i1 vs1 u1 c1 e es ρ' = some (bs', ρ2) ∧ as' ++ bs' = as ++ bs, fun H' h => ?_, fun x H'' hy => ?_⟩
          · obtain ⟨F', ρ', as, xs, bs, a1, a2, a3, a4, a5⟩ := h
            exact ⟨es.length, Nat.lt_succ_self _, F', ρ', as, xs, bs, a1, a2, a3, by rw [ed2]; exact a4, a5, by rw [ed2]⟩
          · obtain ⟨F2, g, r⟩ := yl x H'' hy
            cases eu : u d ρ' with
            | none => rw [eu] at cf; cases cf
            | some ρ3 =>
              rw [eu] at cf
              simp only at cf
              refine ⟨upd B.H0 L (.lst xs), B.F0, F2, ρ', d, ρ3, S'.grow g, r, eu, fun σ2 sm S3 => ?_⟩
              have ew := wipe_same sm hv
              refine ⟨ew, upd B.H0 L (.lst xs), B.F0, F2, ρ3, S3, ?_⟩
              have e2 := e'.trans g.f
              have ra2 := ra.ex g.f
              cases k1 : c ρ3 with
              | ex _ _ => rw [k1] at cf; cases cf
              | bad => rw [k1] at cf; cases cf
              | ok b ρ4 =>
                rw [k1] at cf
                intro F4 H4 x4 S4
                cases b with
                | false =>
                  rw [if_neg Bool.false_ne_true]
                  refine ⟨F4, wipeE ρ4 vs, as, xs, bs, e2.trans x4, ?_, ra2.ex x4, cf, rfl⟩
                  rw [← ew]
                  exact S4.wipe vs
                | true =>
                  rw [if_pos rfl]
                  simp only at cf
                  cases ki : i1 ρ4 with
                  | ex _ _ => rw [ki] at cf; cases cf
                  | bad => rw [ki] at cf; cases cf
                  | ok ds1 ρ5 =>
                    rw [ki] at cf
                    simp only at cf
                    refine ⟨upd B.H0 L (.lst xs), B.F0, F4, ρ4, S4, ?_⟩
                    rw [ki]
                    intro F5 H5 J1 x5 S5 hJ1
                    cases k2 : compF vs1 u1 c1 e ds1 (wipeE ρ5 vs1) with
                    | none => rw [k2] at cf; cases cf
                    | some q =>
                      obtain ⟨ib, ρ6⟩ := q
                      rw [k2] at cf
                      simp only at cf
                      cases k3 : compF2 vs u c i1 vs1 u1 c1 e es (wipeE ρ6 vs) with
                      | none => rw [k3] at cf; cases cf
                      | some q =>
                        obtain ⟨cs, ρ7⟩ := q
                        rw [k3] at cf
                        simp only [Option.some.injEq, Prod.mk.injEq] at cf
                        obtain ⟨rfl, rfl⟩ := cf
                        have e5 := (e2.trans x4).trans x5
                        refine ⟨fun j1 m1 H' => ∃ F' ρ' as' xs' bs', Ex F5 F' ∧ St (B.rb (upd B.H0 L (.lst xs')) B.F0) F' (L2.wipe σ2 vs1) H' ρ' ∧ Reps B.c F' as' xs' ∧ compF vs1 u1 c1 e (ds1.drop j1) ρ' = some (bs', ρ6) ∧ as' ++ (bs' ++ cs) = as ++ (ib ++ cs) ∧ m1 = (ds1.drop j1).length,
                          ⟨_, F5, wipeE ρ5 vs1, as, xs, ib, Ex.refl _, S5.wipe vs1, (ra2.ex x4).ex x5, k2, rfl, rfl⟩, ?_⟩
                        rintro j1 m1 H' ⟨F', ρ', as', xs', bs', e', S', ra', cf', ee, rfl⟩
                        obtain ⟨go1, stop1⟩ := hJ1 F' H' e' S'.ex j1
                        cases ed' : ds1.drop j1 with
                        | nil =>
                          refine .inl ⟨stop1 (by simpa using ed'), ?_⟩
                          rw [ed', compF] at cf'
                          cases cf'
                          refine ⟨F', wipeE ρ6 vs, as', xs', cs, e5.trans e', ?_, ra', k3, ?_⟩
                          · have z := S'.wipe vs
                            rw [wipe_in h1v, ew] at z
                            exact z
                          · rw [← ee]
                            rfl
                        | cons d' es' =>
                          obtain ⟨ed1', ed2'⟩ := drop_at ed'
                          obtain ⟨go1, yl1⟩ := go1 d' ed1'
                          rw [ed', compF] at cf'
                          refine .inr ⟨go1, fun H' => ∃ F' ρ' as2 xs2 bs2, Ex F5 F' ∧ St (B.rb (upd B.H0 L (.lst xs2)) B.F0) F' (L2.wipe σ2 vs1) H' ρ' ∧ Reps B.c F' as2 xs2 ∧ compF vs1 u1 c1 e es' ρ' = some (bs2, ρ6) ∧ as2 ++ (bs2 ++ cs) = as ++ (ib ++ cs), fun H' h => ?_, fun x H'' hy => ?_⟩
                          · obtain ⟨F', ρ', as, xs, bs, a1, a2, a3, a4, a5⟩ := h
                            exact ⟨es'.length, Nat.lt_succ_self _, F', ρ', as, xs, bs, a1, a2, a3, by rw [ed2']; exact a4, a5, by rw [ed2']⟩
                          · obtain ⟨F2', g', r'⟩ := yl1 x H'' hy
                            cases eu' : u1 d' ρ' with
                            | none => rw [eu'] at cf'; cases cf'
                            | some ρ8 =>
                              rw [eu'] at cf'
                              simp only at cf'
                              refine ⟨upd B.H0 L (.lst xs'), B.F0, F2', ρ', d', ρ8, S'.grow g', r', eu', fun σ3 sm' S8 => ?_⟩
                              have ew' := wipe_same sm' hv1
                              refine ⟨ew', upd B.H0 L (.lst xs'), B.F0, F2', ρ8, S8, ?_⟩
                              have e8 := e'.trans g'.f
                              have ra8 := ra'.ex g'.f
                              cases k4 : c1 ρ8 with
                              | ex _ _ => rw [k4] at cf'; cases cf'
                              | bad => rw [k4] at cf'; cases cf'
                              | ok b ρ9 =>
                                rw [k4] at cf'
                                intro F9 H9 x9 S9
                                cases b with
                                | false =>
                                  rw [if_neg Bool.false_ne_true]
                                  refine ⟨F9, wipeE ρ9 vs1, as', xs', bs', e8.trans x9, ?_, ra8.ex x9, cf', ee⟩
                                  rw [← ew']
                                  exact S9.wipe vs1
                                | true =>
                                  rw [if_pos rfl]
                                  simp only at cf'
                                  refine ⟨upd B.H0 L (.lst xs'), B.F0, F9, ρ9, S9, ?_⟩
                                  cases k5 : e ρ9 with
                                  | ex _ _ => rw [k5] at cf'; cases cf'
                                  | bad => rw [k5] at cf'; cases cf'
                                  | ok ra_ ρa =>
                                    rw [k5] at cf'
                                    intro Fa Ha y xa Sa Ra
                                    simp only at cf'
                                    cases k6 : frzR ρa ra_ with
                                    | none => rw [k6] at cf'; cases cf'
                                    | some q =>
                                      obtain ⟨yd, ρb⟩ := q
                                      rw [k6] at cf'
                                      simp only at cf'
                                      obtain ⟨Fb, xb, Sb, rb⟩ := frzR_ok Sa Ra k6
                                      cases k7 : compF vs1 u1 c1 e es' (wipeE ρb vs1) with
                                      | none => rw [k7] at cf'; cases cf'
                                      | some q =>
                                        obtain ⟨ys, ρc⟩ := q
                                        rw [k7] at cf'
                                        cases cf'
                                        have hD : Ha L = some (.lst xs') := Sb.keep L _ (by show upd B.H0 L _ L = _; rw [upd_same]) (fun i h => iow i L h h0) fun z => tb0 L z h0
                                        refine ⟨xs', hD, ?_, Fb, wipeE ρb vs1, as' ++ [yd], xs' ++ [y], ys, ((e8.trans x9).trans xa).trans xb, ?_, ((ra8.ex x9).ex (xa.trans xb)).append (.cons rb .nil), k7, ?_⟩
                                        · have l1 := lineOk_le hz
                                          have l2 := ra'.length
                                          have l3 := congrArg List.length ee
                                          simp only [List.length_append, List.length_cons] at l1 l3
                                          omega
                                        · rw [← ew']
                                          exact (Sb.reheld h0 hf iow tb0).wipe vs1
                                        · rw [← ee]
                                          simp
    · exact h1.elim
theorem d_lc2 {elt tg iter tg1 iter1 : Expr} {ifs ifs1 : List Expr} {scope : Scope} {own : List (Str × Nat)} {pos : Pos} (hc : X.calm = true) (hN : X.N.Nodup) (hi : PID X B W tg iter i) (ok : BlkOk X.N X.env.scope scope own) (hv : ∀ j ∈ ws, j ∈ own.map (·.2)) (hv1 : ∀ j ∈ ws1, j ∈ vs1) (h1v : ∀ j ∈ vs1, j ∈ own.map (·.2))
    (hg : ∀ (s : Shared) (H : Hp) (C : Addr) (cl : List (Str × Addr)) (fp : List Addr) H0 F0, PGD (X.blk s H scope (compEnvC scope cl C X.env) fp) (B.rb H0 F0) tg ws u)
    (ht : ∀ (s : Shared) (H : Hp) (C : Addr) (cl : List (Str × Addr)) (fp : List Addr) H0 F0, PTsD (X.blk s H scope (compEnvC scope cl C X.env) fp) (B.rb H0 F0) ifs c)
    (hi1 : ∀ (s : Shared) (H : Hp) (C : Addr) (cl : List (Str × Addr)) (fp : List Addr) H0 F0, PID (X.blk s H scope (compEnvC scope cl C X.env) fp) (B.rb H0 F0) WNo tg1 iter1 i1)
    (hg1 : ∀ (s : Shared) (H : Hp) (C : Addr) (cl : List (Str × Addr)) (fp : List Addr) H0 F0, PGD (X.blk s H scope (compEnvC scope cl C X.env) fp) (B.rb H0 F0) tg1 ws1 u1)
    (ht1 : ∀ (s : Shared) (H : Hp) (C : Addr) (cl : List (Str × Addr)) (fp : List Addr) H0 F0, PTsD (X.blk s H scope (compEnvC scope cl C X.env) fp) (B.rb H0 F0) ifs1 c1)
    (he : ∀ (s : Shared) (H : Hp) (C : Addr) (cl : List (Str × Addr)) (fp : List Addr) H0 F0, PED (X.blk s H scope (compEnvC scope cl C X.env) fp) (B.rb H0 F0) WNo elt e) (hs : ∀ x, foldedSetIterable iter X.env x = pure x := by intro _; rfl) (hs1 : ∀ env x, foldedSetIterable iter1 env x = pure x := by intro _ _; rfl) :
    PED X B W (.ListComp elt [⟨tg, iter, ifs, 0⟩, ⟨tg1, iter1, ifs1, 0⟩] scope pos) (eLc2 (own.map (·.2)) u c i1 vs1 u1 c1 e i) :=
  pe_wk (pe_lc2 hc hN hi ok h1v (fun s H C cl fp => pg_ex (hg s H C cl fp)) (fun s H C cl fp => pts_ex (ht s H C cl fp)) (fun s H C cl fp => pi_ex (hi1 s H C cl fp)) (fun s H C cl fp => pg_ex (hg1 s H C cl fp)) (fun s H C cl fp => pts_ex (ht1 s H C cl fp)) (fun s H C cl fp => pe_ex (he s H C cl fp)) hs hs1) fun σ H Q h => lc2_ok hv hv1 h1v h
theorem s_setLc2 {k : Nat} {y : Str} {py : Pos} {elt tg iter tg1 iter1 : Expr} {ifs ifs1 : List Expr} {scope : Scope} {own : List (Str × Nat)} {pos spos : Pos} (hc : X.calm = true) (hN : X.N.Nodup) (hy : X.N[k]? = some y) (hyl : X.env.scope.names.lookup y = some .local)
    (hsw : swapsWith (.ListComp elt [⟨tg, iter, ifs, 0⟩, ⟨tg1, iter1, ifs1, 0⟩] scope pos) (some (.Name y py)) spos.line X.env = pure true) (hi : PID X B W tg iter i) (ok : BlkOk X.N X.env.scope scope own) (hv : ∀ j ∈ ws, j ∈ own.map (·.2)) (hv1 : ∀ j ∈ ws1, j ∈ vs1) (h1v : ∀ j ∈ vs1, j ∈ own.map (·.2))
    (hg : ∀ (s : Shared) (H : Hp) (C : Addr) (cl : List (Str × Addr)) (fp : List Addr) H0 F0, PGD (X.blk s H scope (compEnvC scope cl C X.env) fp) (B.rb H0 F0) tg ws u)
    (ht : ∀ (s : Shared) (H : Hp) (C : Addr) (cl : List (Str × Addr)) (fp : List Addr) H0 F0, PTsD (X.blk s H scope (compEnvC scope cl C X.env) fp) (B.rb H0 F0) ifs c)
    (hi1 : ∀ (s : Shared) (H : Hp) (C : Addr) (cl : List (Str × Addr)) (fp : List Addr) H0 F0, PID (X.blk s H scope (compEnvC scope cl C X.env) fp) (B.rb H0 F0) WNo tg1 iter1 i1)
    (hg1 : ∀ (s : Shared) (H : Hp) (C : Addr) (cl : List (Str × Addr)) (fp : List Addr) H0 F0, PGD (X.blk s H scope (compEnvC scope cl C X.env) fp) (B.rb H0 F0) tg1 ws1 u1)
    (ht1 : ∀ (s : Shared) (H : Hp) (C : Addr) (cl : List (Str × Addr)) (fp : List Addr) H0 F0, PTsD (X.blk s H scope (compEnvC scope cl C X.env) fp) (B.rb H0 F0) ifs1 c1)
    (he : ∀ (s : Shared) (H : Hp) (C : Addr) (cl : List (Str × Addr)) (fp : List Addr) H0 F0, PED (X.blk s H scope (compEnvC scope cl C X.env) fp) (B.rb H0 F0) WNo elt e) (hs : ∀ x, foldedSetIterable iter X.env x = pure x := by intro _; rfl) (hs1 : ∀ env x, foldedSetIterable iter1 env x = pure x := by intro _ _; rfl) :
    PSD X B W (.Assign [.Name y py] (.ListComp elt [⟨tg, iter, ifs, 0⟩, ⟨tg1, iter1, ifs1, 0⟩] scope pos) spos) (sSet k (eLc2 (own.map (·.2)) u c i1 vs1 u1 c1 e i)) :=
  ps_wk (ps_setLc2 hc hN hy hyl hsw hi ok h1v (fun s H C cl fp => pg_ex (hg s H C cl fp)) (fun s H C cl fp => pts_ex (ht s H C cl fp)) (fun s H C cl fp => pi_ex (hi1 s H C cl fp)) (fun s H C cl fp => pg_ex (hg1 s H C cl fp)) (fun s H C cl fp => pts_ex (ht1 s H C cl fp)) (fun s H C cl fp => pe_ex (he s H C cl fp)) hs hs1) fun D σ H h => by
    obtain ⟨F, ρ, S, h⟩ := h
    refine lc2_ok hv hv1 h1v ?_
    refine bdS_ok S h fun r ρ1 F1 H1 x e1 S1 R1 h1 => ?_
    cases e : setR ρ1 k r with
    | none => simp only [e] at h1; exact h1.elim
    | some ρ2 =>
      simp only [e] at h1
      obtain ⟨F2, e2, S2⟩ := setR_ok S1 R1 e
      exact h1 F2 _ H1 e2 S2
end
@[simp] theorem y_lc2 {vs vs1 : List Nat} {u u1 : Tg} {c c1 : EvT} {e : Ev} {i i1 : EvI} {ρ : Env} : eLc2 vs u c i1 vs1 u1 c1 e i ρ = (i ρ).bdE fun ds ρ1 => match compF2 vs u c i1 vs1 u1 c1 e ds (wipeE ρ1 vs) with
  | some (rs, ρ2) => if lineOk rs.length then .ok (.f (.list rs)) (unwipe ρ1 ρ2 vs) else .bad
  | none => .bad := rfl
/-- item by item, where the frame stays -/
theorem compF2_map {α β : Type} {vs vs1 : List Nat} {u u1 : Tg} {c1 : EvT} {e : Ev} {i1 : EvI} {ρ : Env} (w : α → D) (xs1 : α → List D) (bs : α → List D) : ∀ xs : List α,
    (∀ x ∈ xs, ∃ ρ1 ρ3 ρ4, u (w x) ρ = some ρ1 ∧ i1 ρ1 = .ok (xs1 x) ρ3 ∧ compF vs1 u1 c1 e (xs1 x) (wipeE ρ3 vs1) = some (bs x, ρ4) ∧ wipeE ρ4 vs = ρ) →
    compF2 vs u tTrue i1 vs1 u1 c1 e (xs.map w) ρ = some ((xs.map bs).flatten, ρ)
  | [], _ => rfl
  | x :: xs, hx => by
    obtain ⟨ρ1, ρ3, ρ4, h1, h2, h3, h4⟩ := hx x (List.mem_cons_self ..)
    have ih := compF2_map (α := α) (β := β) (i1 := i1) (c1 := c1) (e := e) w xs1 bs xs fun y hy => hx y (List.mem_cons_of_mem _ hy)
    rw [List.map_cons, compF2, h1]
    simp only [y_tTrue, h2, h3, h4, ih]
    rfl
end Pd
end
section
set_option Elab.async false
set_option linter.all false
set_option maxRecDepth 100000
set_option maxHeartbeats 4000000
/-! starred displays, ranges as tuples and lists, a call of an entry of a list of defs, two stores into a list -/
namespace Pd
open PySem L2
def aStar (a : Ev) (t : EvA) : EvA := fun ρ => (a ρ).bdA fun r1 ρ1 => match frzR ρ1 r1 with
  | some (.list ds, ρ2) => (t ρ2).bd fun rs ρ3 => .ok (ds.map Res.v ++ rs) ρ3
  | some (.tuple ds, ρ2) => (t ρ2).bd fun rs ρ3 => .ok (ds.map Res.v ++ rs) ρ3
  | _ => .bad
section
variable {B : Bs} {W : WX} {F F1 H : Hp} {σ : L2.St} {ρ : Env} {Q : VK}
theorem ress_vals : ∀ {ds : List D} {vs : List V} {rs : List Res} {xs : List V}, Reps B.c F ds vs → RessOk B F σ H ρ rs xs → RessOk B F σ H ρ (ds.map Res.v ++ rs) (vs ++ xs)
  | _, _, _, _, .nil, h => h
  | _, _, _, _, .cons r t, h => .cons (fun d => by intro z; cases z) r (ress_vals t h)
end
section
variable {X : Cx} {B : Bs} {W : WX} {x y z : Expr} {xs : List Expr} {a b d : Ev} {t : EvA} {pos pos' p p2 p3 : Pos}
theorem a_star (hK : B.c.K = X.K) (ha : PED X B W x a) (ht : PAD X B W xs t) (hs : starEach (.Starred x p :: xs) X.env = (true, eval x X.env) :: starEach xs X.env := by rfl) : PAD X B W (.Starred x p :: xs) (aStar a t) :=
  pa_wk (StX.pa_star ha ht hs) fun σ H Q ⟨F, ρ, S, h⟩ => by
    refine bdA_ok S h fun r1 ρ1 F1 H1 xv e1 S1 R1 h1 => ?_
    cases e : frzR ρ1 r1 with
    | none => rw [e] at h1; exact h1.elim
    | some q =>
      obtain ⟨d, ρ2⟩ := q
      obtain ⟨F2, e2, S2, r2⟩ := frzR_ok S1 R1 e
      rw [e] at h1
      have go : ∀ ds vs, Reps B.c F2 ds vs → OutAOk B W F1 σ Q ((t ρ2).bd fun rs ρ3 => .ok (ds.map Res.v ++ rs) ρ3) → tA B W t σ H1 fun ys H2 => Q (vs ++ ys) H2 := fun ds vs rr hh => by
        refine aabd_ok S2 (OutAOk.mono e2 hh) fun rs ρ3 F3 H3 ys e3 S3 R3 h3 => ?_
        exact h3 F3 H3 _ (Ex.refl _) S3 (ress_vals (rr.ex e3) R3)
      cases d with
      | list ds =>
        obtain ⟨q, vs, rfl, h2, r3⟩ := r2.listI
        exact ⟨q, vs, rfl, .inr (by rw [← hK]; exact exL S2.ex (.inl h2)), go ds vs r3 h1⟩
      | tuple ds =>
        obtain ⟨q, vs, rfl, h2, r3⟩ := r2.tupI
        exact ⟨q, vs, rfl, .inl (by rw [← hK]; exact exT S2.ex h2.sq), go ds vs r3 h1⟩
      | _ => exact h1.elim
@[simp] theorem y_aStar {a : Ev} {t : EvA} {ρ : Env} : aStar a t ρ = (a ρ).bdA fun r1 ρ1 => match frzR ρ1 r1 with
  | some (.list ds, ρ2) => (t ρ2).bd fun rs ρ3 => .ok (ds.map Res.v ++ rs) ρ3
  | some (.tuple ds, ρ2) => (t ρ2).bd fun rs ρ3 => .ok (ds.map Res.v ++ rs) ρ3
  | _ => .bad := rfl
theorem frzs_vals : ∀ (ds : List D) (rs : List Res) (ρ : Env), frzs ρ (ds.map Res.v ++ rs) = (match frzs ρ rs with
    | some (es, ρ2) => some (ds ++ es, ρ2)
    | none => none)
  | [], rs, ρ => by
    show frzs ρ rs = _
    cases frzs ρ rs <;> rfl
  | d :: ds, rs, ρ => by
    rw [List.map_cons, List.cons_append, frzs]
    simp only [frzR]
    rw [frzs_vals ds rs ρ]
    cases frzs ρ rs <;> rfl
@[simp] theorem frzs_all (ds : List D) (ρ : Env) : frzs ρ (ds.map Res.v) = some (ds, ρ) := by
  have := frzs_vals ds [] ρ
  rw [List.append_nil] at this
  rw [this]
  show some (ds ++ [], ρ) = _
  rw [List.append_nil]
@[simp] theorem frzs_vals' (ds : List D) (rs : List Res) (ρ : Env) : frzs ρ (ds.map Res.v ++ rs) = match frzs ρ rs with
  | some (es, ρ2) => some (ds ++ es, ρ2)
  | none => none := frzs_vals ds rs ρ
/-! ### ranges as values -/
noncomputable def rvOk (i j : Int) : Bool := rngOk i && rngOk j && lineOk (j - i).toNat
theorem rvOk_ok {i j : Int} (h : rvOk i j = true) : RgOk i j := by
  unfold rvOk at h
  simp only [Bool.and_eq_true] at h
  obtain ⟨⟨h1, h2⟩, h3⟩ := h
  have h1 := yes_iff.mp h1
  have h2 := yes_iff.mp h2
  have h3 := lineOk_le h3
  rw [sizeLine_eq] at h3
  exact ⟨by omega, by omega, by omega, by omega, by omega⟩
theorem reps_rg {c : Ct} {F : Hp} (i j : Int) : Reps c F (rngD i (j - i).toNat) (rgV i j) := by
  unfold rngD rgV
  induction List.range (j - i).toNat with
  | nil => exact .nil
  | cons k ks ih => exact .cons (.int _) ih
noncomputable def fTRg1 : D → Option Res
  | .int j => if rvOk 0 j then some (.v (.tuple (rngD 0 (j - 0).toNat))) else none
  | _ => none
noncomputable def fLRg1 : D → Option Res
  | .int j => if rvOk 0 j then some (.f (.list (rngD 0 (j - 0).toNat))) else none
  | _ => none
noncomputable def fTRg2 : D → D → Option Res
  | .int i, .int j => if rvOk i j then some (.v (.tuple (rngD i (j - i).toNat))) else none
  | _, _ => none
noncomputable def fLRg2 : D → D → Option Res
  | .int i, .int j => if rvOk i j then some (.f (.list (rngD i (j - i).toNat))) else none
  | _, _ => none
theorem D_TRg1 {c : Ct} : OpD1 c (fun x H Q => ∃ n, x = .int n ∧ RgOk 0 n ∧ ∀ q, H q = none → Q (.ref q) (upd H q (.tup (rgV 0 n)))) fTRg1 := by
  intro F H d1 x res Q e h1 hf
  cases d1 <;> try cases hf
  rename_i n
  simp only [fTRg1] at hf
  split at hf
  · rename_i hz
    cases hf
    exact ⟨sv, fun k => ⟨n, h1.int, rvOk_ok hz, fun p hp => k.tup e (reps_rg 0 n) hp⟩⟩
  · cases hf
theorem D_LRg1 {c : Ct} : OpD1 c (fun x H Q => ∃ n, x = .int n ∧ RgOk 0 n ∧ ∀ q, H q = none → Q (.ref q) (upd H q (.lst (rgV 0 n)))) fLRg1 := by
  intro F H d1 x res Q e h1 hf
  cases d1 <;> try cases hf
  rename_i n
  simp only [fLRg1] at hf
  split at hf
  · rename_i hz
    cases hf
    exact ⟨sf, fun k => ⟨n, h1.int, rvOk_ok hz, fun p hp => k.lst e (reps_rg 0 n) hp⟩⟩
  · cases hf
theorem D_TRg2 {c : Ct} : OpD c (fun x y H Q => ∃ i j, x = .int i ∧ y = .int j ∧ RgOk i j ∧ ∀ q, H q = none → Q (.ref q) (upd H q (.tup (rgV i j)))) fTRg2 := by
  intro F H d1 d2 x y res Q e h1 h2 hf
  cases d1 <;> try cases hf
  cases d2 <;> try cases hf
  rename_i i j
  simp only [fTRg2] at hf
  split at hf
  · rename_i hz
    cases hf
    exact ⟨sv, fun k => ⟨i, j, h1.int, h2.int, rvOk_ok hz, fun p hp => k.tup e (reps_rg i j) hp⟩⟩
  · cases hf
theorem D_LRg2 {c : Ct} : OpD c (fun x y H Q => ∃ i j, x = .int i ∧ y = .int j ∧ RgOk i j ∧ ∀ q, H q = none → Q (.ref q) (upd H q (.lst (rgV i j)))) fLRg2 := by
  intro F H d1 d2 x y res Q e h1 h2 hf
  cases d1 <;> try cases hf
  cases d2 <;> try cases hf
  rename_i i j
  simp only [fLRg2] at hf
  split at hf
  · rename_i hz
    cases hf
    exact ⟨sf, fun k => ⟨i, j, h1.int, h2.int, rvOk_ok hz, fun p hp => k.lst e (reps_rg i j) hp⟩⟩
  · cases hf
theorem d_tRg1 (hc : X.calm = true) (hg : Gl X "tuple") (hm : X.mg "tuple" = none) (hg2 : Gl X "range") (hm2 : X.mg "range" = none) (ha : PED X B W x a)
    (na : starEach [x] X.env = (false, eval x X.env) :: starEach [] X.env := by rfl) (nb : starEach [.Call (.Name "range" p2) [x] [] p] X.env = (false, eval (.Call (.Name "range" p2) [x] [] p) X.env) :: starEach [] X.env := by rfl) :
    PED X B W (.Call (.Name "tuple" pos) [.Call (.Name "range" p2) [x] [] p] [] pos') (e1 fTRg1 a) :=
  pe_wk (pe_tupRg hc hg hm (prg_1 hg2 hm2 ha na) nb) (op1 D_TRg1)
theorem d_lRg1 (hc : X.calm = true) (hg : Gl X "list") (hm : X.mg "list" = none) (hg2 : Gl X "range") (hm2 : X.mg "range" = none) (ha : PED X B W x a)
    (na : starEach [x] X.env = (false, eval x X.env) :: starEach [] X.env := by rfl) (nb : starEach [.Call (.Name "range" p2) [x] [] p] X.env = (false, eval (.Call (.Name "range" p2) [x] [] p) X.env) :: starEach [] X.env := by rfl) :
    PED X B W (.Call (.Name "list" pos) [.Call (.Name "range" p2) [x] [] p] [] pos') (e1 fLRg1 a) :=
  pe_wk (pe_listRg hc hg hm (prg_1 hg2 hm2 ha na) nb) (op1 D_LRg1)
theorem d_tRg2 (hc : X.calm = true) (hg : Gl X "tuple") (hm : X.mg "tuple" = none) (hg2 : Gl X "range") (hm2 : X.mg "range" = none) (ha : PED X B W x a) (hb : PED X B W y b)
    (na : starEach [x, y] X.env = (false, eval x X.env) :: starEach [y] X.env := by rfl) (na2 : starEach [y] X.env = (false, eval y X.env) :: starEach [] X.env := by rfl) (np : (backTo p (starEach [y] X.env)).any (·.1) = false := by rfl) (nb : starEach [.Call (.Name "range" p2) [x, y] [] p] X.env = (false, eval (.Call (.Name "range" p2) [x, y] [] p) X.env) :: starEach [] X.env := by rfl) :
    PED X B W (.Call (.Name "tuple" pos) [.Call (.Name "range" p2) [x, y] [] p] [] pos') (eOp fTRg2 a b) :=
  pe_wk (pe_tupRg hc hg hm (prg_2 hg2 hm2 ha hb na na2 np) nb) (op2 D_TRg2)
theorem d_lRg2 (hc : X.calm = true) (hg : Gl X "list") (hm : X.mg "list" = none) (hg2 : Gl X "range") (hm2 : X.mg "range" = none) (ha : PED X B W x a) (hb : PED X B W y b)
    (na : starEach [x, y] X.env = (false, eval x X.env) :: starEach [y] X.env := by rfl) (na2 : starEach [y] X.env = (false, eval y X.env) :: starEach [] X.env := by rfl) (np : (backTo p (starEach [y] X.env)).any (·.1) = false := by rfl) (nb : starEach [.Call (.Name "range" p2) [x, y] [] p] X.env = (false, eval (.Call (.Name "range" p2) [x, y] [] p) X.env) :: starEach [] X.env := by rfl) :
    PED X B W (.Call (.Name "list" pos) [.Call (.Name "range" p2) [x, y] [] p] [] pos') (eOp fLRg2 a b) :=
  pe_wk (pe_listRg hc hg hm (prg_2 hg2 hm2 ha hb na na2 np) nb) (op2 D_LRg2)
@[simp] theorem rvOk_s {i j : Int} (h : -1000000 ≤ i) (h' : i ≤ 1000000) (h2 : -1000000 ≤ j) (h3 : j ≤ 1000000) : rvOk i j = true := by
  unfold rvOk
  rw [rngOk_s (by omega) (by omega), rngOk_s (by omega) (by omega), lineOk_s (by omega)]
  rfl
/-! ### a call of an entry of a list of defs -/
def tRefs : List Addr → TA
  | [] => tNil
  | g :: gs => tCons (tC (.ref g)) (tRefs gs)
theorem refs_ok : ∀ {gs : List Addr} {σ : L2.St} {H : Hp} {Q : List V → Hp → Prop}, Q (gs.map V.ref) H → tRefs gs σ H Q
  | [], σ, H, Q, h => h
  | g :: gs, σ, H, Q, h => by
    show tRefs gs σ H fun xs H2 => Q (V.ref g :: xs) H2
    exact refs_ok h
theorem ra_nil : PA X [] (tRefs []) := pa_nil
theorem ra_cons {g : Addr} {gs : List Addr} {nm : Str} {ns : List Expr} (hg : Gl X nm) (hm : X.mg nm = some (.ref g)) (h : PA X ns (tRefs gs)) (hd : (nm == ("__debug__" : Str)) = false := by decide)
    (hs : starEach (.Name nm p :: ns) X.env = (false, eval (.Name nm p) X.env) :: starEach ns X.env := by rfl) : PA X (.Name nm p :: ns) (tRefs (g :: gs)) := pa_cons (pe_glob (v := .ref g) hg hm rfl hd) h hs
inductive CFs (X : Cx) (B : Bs) (n : Nat) : List Addr → List Fn → Prop
  | nil : CFs X B n [] []
  | cons {k : Nat} {g : Addr} {f : Fn} {fd : FuncData} {ps : List Str} {gs : List Addr} {fs : List Fn} (Fo : FnOk X.prog X.w X.K X.mg X.base (L2N.CX X.prog X.w) k g fd ps (spD B.c B.ec (List.replicate n false) f)) (hr : Room k X.A) (hk : PySem.W.keepIn X.K (.ref g) = true) (hb : Binds X.K fd ps []) : CFs X B n gs fs → CFs X B n (g :: gs) (f :: fs)
theorem CFs.len {n : Nat} {gs : List Addr} {fs : List Fn} (h : CFs X B n gs fs) : gs.length = fs.length := by
  induction h with
  | nil => rfl
  | cons _ _ _ _ _ ih => rw [List.length_cons, List.length_cons, ih]
theorem CFs.get {n : Nat} {gs : List Addr} {fs : List Fn} (h : CFs X B n gs fs) : ∀ {j : Nat} {g : Addr} {f : Fn}, gs[j]? = some g → fs[j]? = some f → ∃ k fd ps, FnOk X.prog X.w X.K X.mg X.base (L2N.CX X.prog X.w) k g fd ps (spD B.c B.ec (List.replicate n false) f) ∧ Room k X.A ∧ PySem.W.keepIn X.K (.ref g) = true ∧ Binds X.K fd ps [] := by
  induction h with
  | nil =>
    intro j g f e
    simp at e
  | cons Fo hr hk hb _ ih =>
    intro j g f e1 e2
    cases j with
    | zero =>
      simp at e1 e2
      subst e1 e2
      exact ⟨_, _, _, Fo, hr, hk, hb⟩
    | succ j => exact ih (by simpa using e1) (by simpa using e2)
def eCallF (fs : List Fn) (i n : Nat) (t : EvA) : Ev := fun ρ => match ρ[i]? with
  | some (.v (.int k)) => match ixN fs.length k with
    | some j => match fs[j]? with
      | some f => eCall n f t ρ
      | none => .bad
    | none => .bad
  | _ => .bad
theorem d_callF {n i : Nat} {nm : Str} {fs : List Fn} {gs : List Addr} {ns : List Expr} (hc : X.calm = true) (hl : PA X ns (tRefs gs)) (hz : gs.length ≤ 1000)
    (hv : PE X (.Name nm p2) (tVar i)) (hi : PlainIx (.Name nm p2)) (hF : CFs X B n gs fs)
    (tk : L2N.Takes X W) (ha : PAD X B W (x :: xs) t)
    (he : starEach (x :: xs) X.env = (false, eval x X.env) :: starEach xs X.env := by rfl) (hpl : (backTo pos (starEach xs X.env)).any (·.1) = false := by rfl)
    (ht : eval (.Call (.Subscript (.List ns p) (.Name nm p2) p3) (x :: xs) [] pos) X.env = (do callWith pos (← eval (.Subscript (.List ns p) (.Name nm p2) p3) X.env) [] (backTo pos (starEach (x :: xs) X.env)) (backToKw pos (keywordEach [] X.env))) := by rfl) :
    PED X B W (.Call (.Subscript (.List ns p) (.Name nm p2) p3) (x :: xs) [] pos) (eCallF fs i n t) := by
  have el := hF.len
  have hf := fun j g f => hF.get (j := j) (g := g) (f := f)
  refine ⟨fun pins s σ H Q I ⟨F, ρ, S, h⟩ => ?_⟩
  unfold eCallF at h
  cases e1 : ρ[i]? with
  | none => rw [e1] at h; exact h.elim
  | some sl =>
    rw [e1] at h
    cases sl with
    | v d =>
      cases d with
      | int k =>
        simp only at h
        cases e2 : ixN fs.length k with
        | none => rw [e2] at h; exact h.elim
        | some j =>
          simp only [e2] at h
          cases e3 : fs[j]? with
          | none => rw [e3] at h; exact h.elim
          | some f =>
            simp only [e3] at h
            have hj : j < gs.length := by rw [el]; exact get_lt e3
            have e4 : gs[j]? = some gs[j] := List.getElem?_eq_getElem hj
            obtain ⟨k', fd, ps, Fo, hr, hk, hb⟩ := hf j gs[j] f e4 e3
            have hi' : i < σ.length := by rw [S.len]; exact get_lt e1
            have hs := S.sl i _ _ e1 (List.getElem?_eq_getElem hi')
            obtain ⟨v, ev, rv⟩ := hs
            cases rv
            refine PyProof.Rows.Call_ (thn ((pe_ix ix_list (pe_lst hl) hv hi).run pins s σ H (fun y H1 => y = .ref gs[j] ∧ ∃ q, H q = none ∧ H1 = upd H q (.lst (gs.map V.ref))) I (refs_ok ⟨?_, fun q hq => ⟨_, by rw [List.getElem?_eq_getElem hi', ev], _, _, _, _, rfl, rfl, .inl (.inl upd_same), ?_, rfl, q, hq, rfl⟩⟩)) fun u s1 ⟨y, H1, I1, ry, ey, q, hq, eH⟩ => ?_) ht
            · rw [List.length_map, sizeLine_eq]; omega
            · unfold atI
              rw [List.length_map, el, e2]
              simp only [Option.bind_some, List.getElem?_map, e4]
              rfl
            · subst ey eH
              obtain rfl : u = Value.ref gs[j] := ry
              have S1 := S.grow (Grow.own (o := .lst (gs.map V.ref)) S.ex hq)
              have c := call_ok (t := t) ⟨F, ρ, S1, h⟩
              refine PySem.W.callWith_K (h₀ := X.base) I1.ok.mod.kin hk (thn (ha.run pos pins s1 σ _ _ I1 c) fun us s2 ⟨vs, H2, I2, r, q2⟩ => ⟨I2.kIn, ?_⟩) he hpl
              exact run_fnSD Fo hr hb .nil (L2N.passAt tk σ) I2 r q2
      | _ => exact h.elim
    | _ => exact h.elim
@[simp] theorem y_callF {fs : List Fn} {i n : Nat} {t : EvA} {ρ : Env} : eCallF fs i n t ρ = match ρ[i]? with
  | some (.v (.int k)) => match ixN fs.length k with
    | some j => match fs[j]? with
      | some f => eCall n f t ρ
      | none => .bad
    | none => .bad
  | _ => .bad := rfl
end
end Pd
end
section
set_option Elab.async false
set_option linter.all false
set_option maxRecDepth 100000
set_option maxHeartbeats 4000000
/-! zip of three tuples -/
namespace Pd
open PySem PySem.Spec PySem.W PyProof.Rows L2
def Itz3 (K : PySem.W.Frag) (a b c : Addr) : It :=
  ⟨fun i H => ∃ (xs ys zs : List V) (x y z : V), SqT K H a xs ∧ SqT K H b ys ∧ SqT K H c zs ∧ xs[i]? = some x ∧ ys[i]? = some y ∧ zs[i]? = some z,
    fun i H v H' => ∃ T x y z, v = .ref T ∧ H T = none ∧ H' = upd H T (.tup [x, y, z]) ∧ (∀ xs, SqT K H a xs → xs[i]? = some x) ∧ (∀ ys, SqT K H b ys → ys[i]? = some y) ∧ ∀ zs, SqT K H c zs → zs[i]? = some z,
    fun i H => ∃ xs ys zs : List V, SqT K H a xs ∧ SqT K H b ys ∧ SqT K H c zs ∧ (xs.length ≤ i ∨ ys.length ≤ i ∨ zs.length ≤ i)⟩
/-- a tuple's iterator at a place, before its end or behind -/
theorem draws_at {prog : Program} {w : World} {A : Around} (hh : A.handled = none) (it t : Addr) (hne : t ≠ it) (items : Array Value) (i : Nat) :
    ∃ n St, Draws prog w A it [it, t] n (fun j v => items[j]? = some v) St ∧ i ≤ n ∧ (items.size ≤ i → i = n) ∧ ∀ h : Heap, h.IsTupleIter it t i → h.IsTuple t items → St i h := by
  by_cases c : i < items.size
  · exact ⟨_, _, Draws.tuple hh it t hne items, by omega, by omega, fun h a b => ⟨a, b⟩⟩
  · refine ⟨i, fun j h => h.IsTupleIter it t j ∧ h.IsTuple t items ∧ j = i, ⟨fun _ _ st => let ⟨o, ho, _⟩ := st.1; ⟨o, ho⟩, fun _ _ _ st hk => ⟨st.1.at fun o e => hk it (by simp) o e, st.2.1.at fun o e => hk t (by simp) o e, st.2.2⟩, fun j s Q E hi st hQ => ?_, fun s Q E st hE => ?_⟩, Nat.le_refl _, fun _ => rfl, fun h a b => ⟨a, b, rfl⟩⟩
    · have := st.2.2
      omega
    · exact wpAny_nextOf_tuple_end hh st.1 st.2.1 (by simp; omega) hE
theorem turn_zip3 {P : Program} {w : World} {K : PySem.W.Frag} {elts : List Expr} {kk : Nat} {tpos : Pos} {a b c z TI TO i1 i2 i3 : Addr} (D : ZipSep3 z TI TO i1 i2 i3 [i1, a] [i2, b] [i3, c]) :
    Turn P w K (.Tuple elts kk tpos) (Itz3 K a b c) [z, TI, TO, i1, i2, i3] z (fun i h => IsZip h z TI TO .none ∧ IsTupOf3 h TI (.ref i1) (.ref i2) (.ref i3) ∧ (∃ x y u, IsTupOf3 h TO x y u) ∧ h.IsTupleIter i1 a i ∧ h.IsTupleIter i2 b i ∧ h.IsTupleIter i3 c i) where
  mem := by simp
  obj := fun i h st q hc => by
    obtain ⟨hz, hTI, ⟨x, y, u, hTO⟩, ⟨o1, e1, _, d1⟩, ⟨o2, e2, _, d2⟩, ⟨o3, e3, _, d3⟩⟩ := st
    have e' : q = z ∨ q = TI ∨ q = TO ∨ q = i1 ∨ q = i2 ∨ q = i3 := by simpa using hc
    rcases e' with q | q | q | q | q | q
    · rw [q]; exact ⟨_, hz, fun v q => nomatch q⟩
    · rw [q]; exact ⟨_, hTI, fun v q => nomatch q⟩
    · rw [q]; exact ⟨_, hTO, fun v q => nomatch q⟩
    · rw [q]; exact ⟨o1, e1, fun v q => by rw [d1] at q; cases q⟩
    · rw [q]; exact ⟨o2, e2, fun v q => by rw [d2] at q; cases q⟩
    · rw [q]; exact ⟨o3, e3, fun v q => by rw [d3] at q; cases q⟩
  keep := fun i h h' st k => by
    obtain ⟨hz, hTI, ⟨x, y, u, hTO⟩, h1, h2, h3⟩ := st
    exact ⟨k z (by simp) _ hz, k TI (by simp) _ hTI, ⟨x, y, u, k TO (by simp) _ hTO⟩, h1.at fun o q => k i1 (by simp) o q, h2.at fun o q => k i2 (by simp) o q, h3.at fun o q => k i3 (by simp) o q⟩
  item := by
    intro X hP hw hK hc i pins s σ H E I hf st hg
    subst hP hw hK
    obtain ⟨hz, hTI, ⟨x0, y0, u0, hTO⟩, h1, h2, h3⟩ := st
    obtain ⟨xs, ys, zs, x, y, v, hqx, hqy, hqz, hx, hy, hv⟩ := hg
    obtain ⟨its, rv, p, _⟩ := I.tuple hqx
    obtain ⟨its2, rv2, p2, _⟩ := I.tuple hqy
    obtain ⟨its3, rv3, p3, _⟩ := I.tuple hqz
    obtain ⟨u, hu, ru⟩ := rv.get hx
    obtain ⟨u2, hu2, ru2⟩ := rv2.get hy
    obtain ⟨u3, hu3, ru3⟩ := rv3.get hv
    have hzl : z < s.heap.objs.size := Heap.lt_size hz
    have hd : X.A.in1.handled = none := I.ok.hd hc
    have D1 := Draws.tuple (prog := X.prog) (w := X.w) hd i1 a (fun e => by
        obtain ⟨o1, e1, c1, _⟩ := h1
        obtain ⟨o2, e2, c2, _⟩ := p
        rw [e, e1] at e2
        cases e2
        rw [c1] at c2
        exact absurd c2 (by simp)) its.toArray
    have D2 := Draws.tuple (prog := X.prog) (w := X.w) hd i2 b (fun e => by
        obtain ⟨o1, e1, c1, _⟩ := h2
        obtain ⟨o2, e2, c2, _⟩ := p2
        rw [e, e1] at e2
        cases e2
        rw [c1] at c2
        exact absurd c2 (by simp)) its2.toArray
    have D3 := Draws.tuple (prog := X.prog) (w := X.w) hd i3 c (fun e => by
        obtain ⟨o1, e1, c1, _⟩ := h3
        obtain ⟨o2, e2, c2, _⟩ := p3
        rw [e, e1] at e2
        cases e2
        rw [c1] at c2
        exact absurd c2 (by simp)) its3.toArray
    have hi1 : i < its.toArray.size := by have := (List.getElem?_eq_some_iff.mp hu).1; simpa using this
    have hi2 : i < its2.toArray.size := by have := (List.getElem?_eq_some_iff.mp hu2).1; simpa using this
    have hi3 : i < its3.toArray.size := by have := (List.getElem?_eq_some_iff.mp hu3).1; simpa using this
    refine wpAny_pyNext_zipD3_item D D1 D2 D3 hz hTI hTO ⟨h1, p⟩ ⟨h2, p2⟩ ⟨h3, p3⟩ hi1 hi2 hi3 fun y1 y2 y3 h' tk g1 g2 g3 z' TO' d1 d2 d3 hT hsz hk => ?_
    have g1 : its[i]? = some y1 := by simpa using g1
    have g2 : its2[i]? = some y2 := by simpa using g2
    have g3 : its3[i]? = some y3 := by simpa using g3
    rw [hu] at g1; cases g1
    rw [hu2] at g2; cases g2
    rw [hu3] at g3; cases g3
    refine ⟨_, rfl, wpAny_letOwnedTupleGo_zip (s := { s with heap := h', toks := tk }) z' fun h'' z'' sb => ?_⟩
    have hT2 : h''.get? s.heap.objs.size = some { cls := .type "tuple", data := .seq #[u, u2, u3] } := (sb.2 _ (Nat.ne_of_gt hzl)).trans hT
    have new : ObjOk X.prog X.w (upd H s.heap.objs.size (.tup [x, y, v])) h'' s.heap.objs.size (.tup [x, y, v]) :=
      ⟨by show 3 ≤ sizeLine; decide, [u, u2, u3], .cons ru (.cons ru2 (.cons ru3 .nil)), ⟨_, hT2, rfl, _, rfl⟩⟩
    have I1 : Inv X pins σ (upd H s.heap.objs.size (.tup [x, y, v])) { s with heap := h'', toks := tk } :=
      I.turnedNew (t' := tk) (ch := [z, TI, TO, i1, i2, i3]) (fun q o hb e => (sb.2 q (fun q' => hb (by simp [q']))).trans (hk q o (fun q' => hb (by simp [q'])) (fun q' => hb (by simp [q'])) (fun q' => hb (by simp [q'])) (fun q' => hb (by simp [q'])) (fun q' => hb (by simp [q'])) e)) hf (Nat.le_refl _) new
    have i1z : i1 ≠ z := fun e => D.zf1 (by rw [← e]; simp)
    have i2z : i2 ≠ z := fun e => D.zf2 (by rw [← e]; simp)
    have i3z : i3 ≠ z := fun e => D.zf3 (by rw [← e]; simp)
    refine ⟨.ref s.heap.objs.size, _, I1, rfl, ⟨_, x, y, v, rfl, I.hok.fresh (Nat.le_refl _), rfl, fun l hl => by rw [I.tuple_inj hl hqx]; exact hx, fun l hl => by rw [I.tuple_inj hl hqy]; exact hy, fun l hl => by rw [I.tuple_inj hl hqz]; exact hv⟩, ⟨z'', ?_, ⟨u, u2, u3, ?_⟩, ?_, ?_, ?_⟩, fun q hcm => ?_⟩
    · exact (sb.2 _ D.TIz).trans (hk _ _ D.TIz D.TITO D.TIi1 D.TIi2 D.TIi3 hTI)
    · exact (sb.2 _ D.TOz).trans TO'
    · exact d1.1.at fun o q => (sb.2 _ i1z).trans q
    · exact d2.1.at fun o q => (sb.2 _ i2z).trans q
    · exact d3.1.at fun o q => (sb.2 _ i3z).trans q
    · have hlt : q < s.heap.objs.size := by
        have e' : q = z ∨ q = TI ∨ q = TO ∨ q = i1 ∨ q = i2 ∨ q = i3 := by simpa using hcm
        rcases e' with q | q | q | q | q | q
        · rw [q]; exact hzl
        · rw [q]; exact Heap.lt_size hTI
        · rw [q]; exact Heap.lt_size hTO
        · rw [q]; obtain ⟨_, e1, _⟩ := h1; exact Heap.lt_size e1
        · rw [q]; obtain ⟨_, e2, _⟩ := h2; exact Heap.lt_size e2
        · rw [q]; obtain ⟨_, e3, _⟩ := h3; exact Heap.lt_size e3
      rw [upd_ne (Nat.ne_of_lt hlt)]
      exact (hf q hcm).1
  done := by
    intro X hP hw hK hc i pins s σ H E I hf st hg
    subst hP hw hK
    obtain ⟨hz, hTI, ⟨x0, y0, u0, hTO⟩, h1, h2, h3⟩ := st
    obtain ⟨xs, ys, zs, hqx, hqy, hqz, hend⟩ := hg
    obtain ⟨its, rv, p, _⟩ := I.tuple hqx
    obtain ⟨its2, rv2, p2, _⟩ := I.tuple hqy
    obtain ⟨its3, rv3, p3, _⟩ := I.tuple hqz
    have l1 := rv.length
    have l2 := rv2.length
    have l3 := rv3.length
    have hd : X.A.in1.handled = none := I.ok.hd hc
    obtain ⟨n1, S1, D1, b1, c1, g1⟩ := draws_at (prog := X.prog) (w := X.w) hd i1 a (fun e => by
        obtain ⟨o1, e1, c1, _⟩ := h1
        obtain ⟨o2, e2, c2, _⟩ := p
        rw [e, e1] at e2
        cases e2
        rw [c1] at c2
        exact absurd c2 (by simp)) its.toArray i
    obtain ⟨n2, S2, D2, b2, c2, g2⟩ := draws_at (prog := X.prog) (w := X.w) hd i2 b (fun e => by
        obtain ⟨o1, e1, c1, _⟩ := h2
        obtain ⟨o2, e2, c2, _⟩ := p2
        rw [e, e1] at e2
        cases e2
        rw [c1] at c2
        exact absurd c2 (by simp)) its2.toArray i
    obtain ⟨n3, S3, D3, b3, c3, g3⟩ := draws_at (prog := X.prog) (w := X.w) hd i3 c (fun e => by
        obtain ⟨o1, e1, c1, _⟩ := h3
        obtain ⟨o2, e2, c2, _⟩ := p3
        rw [e, e1] at e2
        cases e2
        rw [c1] at c2
        exact absurd c2 (by simp)) its3.toArray i
    rw [List.size_toArray] at c1 c2 c3
    exact wpAny_pyNext_zipD3_end D D1 D2 D3 hz hTI hTO (g1 _ h1 p) (g2 _ h2 p2) (g3 _ h3 p3) b1 b2 b3 (by
      rcases hend with q | q | q
      · exact .inl (c1 (by omega))
      · exact .inr (.inl (c2 (by omega)))
      · exact .inr (.inr (c3 (by omega)))) fun h' tk hk => ⟨rfl, I.turnedL (t' := tk) (ch := [z, TI, TO, i1, i2, i3]) (fun q o hb e =>
      hk q o (fun q' => hb (by simp [q'])) (fun q' => hb (by simp [q'])) (fun q' => hb (by simp [q'])) (fun q' => hb (by simp [q'])) (fun q' => hb (by simp [q'])) e) hf⟩
  self := fun A i s Q E st h => wpAny_pyIter_zip st.1 h
def iZip3 (K : PySem.W.Frag) (ta : TA) : TI := fun σ H R => ta σ H fun vs H1 => ∃ a b c xs ys zs, vs = [.ref a, .ref b, .ref c] ∧ SqT K H1 a xs ∧ SqT K H1 b ys ∧ SqT K H1 c zs ∧ R (Itz3 K a b c) H1
theorem pi_zip3 {X : Cx} {e e2 e3 : Expr} {ta : TA} {p pos tpos : Pos} {elts : List Expr} {kk : Nat} (hg : Gl X "zip") (hm : X.mg "zip" = none) (ha : PA X [e, e2, e3] ta)
    (hs : starEach [e, e2, e3] X.env = (false, eval e X.env) :: starEach [e2, e3] X.env := by rfl) (hpl : (backTo pos (starEach [e2, e3] X.env)).any (·.1) = false := by rfl) :
    PI X (.Tuple elts kk tpos) (.Call (.Name "zip" p) [e, e2, e3] [] pos) (iZip3 X.K ta) := by
  refine ⟨fun pins s σ H R I h => ?_⟩
  refine Call_ (ld_blt I hg hm PyProof.Rows.boot_zip (PyProof.Rows.callWith_type1 (thn (ha.run pos pins s σ H _ I h) fun us s1 ⟨vs, H1, I1, r1, q1⟩ => ?_) hs hpl))
  obtain ⟨a, b, c, xs, ys, zs, ex, hqx, hqy, hqz, q⟩ := q1
  subst ex
  cases r1 with
  | cons r rr =>
    cases rr with
    | cons r' rr =>
      cases rr with
      | cons r2 rr =>
        cases rr
        cases r
        cases r'
        cases r2
        obtain ⟨its, rv, p1, _⟩ := I1.tuple hqx
        obtain ⟨its2, rv2, p2, _⟩ := I1.tuple hqy
        obtain ⟨its3, rv3, p3, _⟩ := I1.tuple hqz
        have la : a < s1.heap.objs.size := let ⟨_, ho, _⟩ := p1; Heap.lt_size ho
        have lb : b < s1.heap.objs.size := let ⟨_, ho, _⟩ := p2; Heap.lt_size ho
        have lc : c < s1.heap.objs.size := let ⟨_, ho, _⟩ := p3; Heap.lt_size ho
        refine zip_begins3 (begins_tuple a its.toArray) (begins_tuple b its2.toArray) (begins_tuple c its3.toArray) p1 p2 p3 fun h' hz hTI hTO h1 h2 h3 hsz hk => wpAny_pyIter_zip hz ?_
        have I2 : Inv X pins σ H1 { s1 with heap := h' } := I1.kept (t' := s1.toks) hk
        have hS : ZipSep3 (s1.heap.objs.size + 5) (s1.heap.objs.size + 3) (s1.heap.objs.size + 4) s1.heap.objs.size (s1.heap.objs.size + 1) (s1.heap.objs.size + 2) [s1.heap.objs.size, a] [s1.heap.objs.size + 1, b] [s1.heap.objs.size + 2, c] := by
          have A : ∀ {x y : Nat}, x ≠ y → @Ne Addr x y := fun h => h
          have M : ∀ {x y z : Nat}, x ≠ y → x ≠ z → x ∉ ([y, z] : List Addr) := fun h1 h2 hm => by
            rcases List.mem_cons.mp hm with e | e
            · exact h1 e
            · exact h2 (List.mem_singleton.mp e)
          have la : @LT.lt Nat _ a s1.heap.objs.size := la
          have lb : @LT.lt Nat _ b s1.heap.objs.size := lb
          have lc : @LT.lt Nat _ c s1.heap.objs.size := lc
          exact { TIz := A (by omega), TOz := A (by omega), TITO := A (by omega), TIi1 := A (by omega), mem1 := by simp, zf1 := M (by omega) (by omega), Tf1 := M (by omega) (by omega), TIi2 := A (by omega), mem2 := by simp, zf2 := M (by omega) (by omega), Tf2 := M (by omega) (by omega), TIi3 := A (by omega), mem3 := by simp, zf3 := M (by omega) (by omega), Tf3 := M (by omega) (by omega), sep1_2 := M (by omega) (by omega), sep1_3 := M (by omega) (by omega), sep2_1 := M (by omega) (by omega), sep2_3 := M (by omega) (by omega), sep3_1 := M (by omega) (by omega), sep3_2 := M (by omega) (by omega) }
        refine ⟨s1.heap.objs.size + 5, [s1.heap.objs.size + 5, s1.heap.objs.size + 3, s1.heap.objs.size + 4, s1.heap.objs.size, s1.heap.objs.size + 1, s1.heap.objs.size + 2], _, _, H1, rfl, I2, turn_zip3 hS, ⟨hz, hTI, ⟨_, _, _, hTO⟩, ⟨_, h1, rfl, rfl⟩, ⟨_, h2, rfl, rfl⟩, ⟨_, h3, rfl, rfl⟩⟩, fun q hcm => ?_, q⟩
        have hle : s1.heap.objs.size ≤ q := by
          simp only [List.mem_cons, List.mem_nil_iff, or_false] at hcm
          rcases hcm with z | z | z | z | z | z <;> rw [z] <;> first | exact Nat.le_refl _ | exact Nat.le_add_right _ _
        exact I1.fpOk hle (I1.hok.fresh hle)
def zip3 (ds es fs : List D) : List D := (ds.zip (es.zip fs)).map fun q => PyData.tuple [q.1, q.2.1, q.2.2]
def iZip3D (t : EvA) : EvI := fun ρ => (t ρ).bdI fun rs ρ1 => match frzs ρ1 rs with
  | some ([.tuple ds, .tuple es, .tuple fs], ρ2) => .ok (zip3 ds es fs) ρ2
  | _ => .bad
theorem itOk_zip3 {c : Ct} {F : Hp} {q q' q2 : Addr} {ds es fs : List D} {vs ws us : List V} (r : TupAt c F q vs) (rs : Reps c F ds vs) (s : TupAt c F q' ws) (ss : Reps c F es ws) (t : TupAt c F q2 us) (ts : Reps c F fs us) : ItOk c F (Itz3 c.K q q' q2) (zip3 ds es fs) := by
  intro F' H' e1 e2 k
  have r' : SqT c.K H' q vs := (r.ex (e1.trans e2)).sq
  have s' : SqT c.K H' q' ws := (s.ex (e1.trans e2)).sq
  have t' : SqT c.K H' q2 us := (t.ex (e1.trans e2)).sq
  refine ⟨fun d hd => ?_, fun hk => ⟨vs, ws, us, r', s', t', ?_⟩⟩
  · simp only [zip3, List.getElem?_map, Option.map_eq_some_iff] at hd
    obtain ⟨⟨d1, d2, d3⟩, hz, rfl⟩ := hd
    rw [List.getElem?_zip_eq_some] at hz
    obtain ⟨hz1, hz2⟩ := hz
    rw [List.getElem?_zip_eq_some] at hz2
    obtain ⟨v, hv, rv⟩ := rs.getD hz1
    obtain ⟨w, hw, rw'⟩ := ss.getD hz2.1
    obtain ⟨u, hu, ru⟩ := ts.getD hz2.2
    refine ⟨⟨vs, ws, us, v, w, u, r', s', t', hv, hw, hu⟩, fun x H'' h => ?_⟩
    obtain ⟨T, x', y', z', rfl, hT, rfl, h, h', h2⟩ := h
    have e3 := h vs r'
    rw [hv] at e3
    cases e3
    have e3 := h' ws s'
    rw [hw] at e3
    cases e3
    have e3 := h2 us t'
    rw [hu] at e3
    cases e3
    have f := Ex.new (o := .tup [v, w, u]) (e2.free hT)
    exact ⟨_, Grow.obj e2 hT, .tup (.inl upd_same) (.cons ((rv.ex e1).ex f) (.cons ((rw'.ex e1).ex f) (.cons ((ru.ex e1).ex f) .nil)))⟩
  · have a := rs.length
    have b := ss.length
    have d := ts.length
    simp [zip3] at hk
    omega
section
variable {X : Cx} {B : Bs} {W : WX} {x y z : Expr} {ta : EvA} {pos p : Pos}
theorem i_zip3 (hK : B.c.K = X.K) {elts : List Expr} {kk : Nat} {tpos : Pos} (hg : Gl X "zip") (hm : X.mg "zip" = none) (ha : PAD X B W [x, y, z] ta)
    (hs : starEach [x, y, z] X.env = (false, eval x X.env) :: starEach [y, z] X.env := by rfl) (hpl : (backTo pos (starEach [y, z] X.env)).any (·.1) = false := by rfl) : PID X B W (.Tuple elts kk tpos) (.Call (.Name "zip" p) [x, y, z] [] pos) (iZip3D ta) :=
  pi_wk (pi_zip3 hg hm ha hs hpl) fun σ H R ⟨F, ρ, S, h⟩ => abdI_ok S h fun rs ρ1 F1 H1 xs e1 S1 R1 h1 => by
    rw [← hK]
    split at h1
    · rename_i ds es fs ρ2 e
      obtain ⟨F2, x2, S2, q2⟩ := frzs_ok S1 R1 e
      cases q2 with
      | cons q2 t =>
        cases t with
        | cons q3 t =>
          cases t with
          | cons q4 t =>
            cases t
            obtain ⟨a, vs, rfl, r, q⟩ := q2.tupI
            obtain ⟨b, ws, rfl, r3, q3⟩ := q3.tupI
            obtain ⟨c, us, rfl, r4, q4⟩ := q4.tupI
            exact ⟨a, b, c, vs, ws, us, rfl, (r.ex S2.ex).sq, (r3.ex S2.ex).sq, (r4.ex S2.ex).sq, h1 F2 H1 _ x2 S2 (itOk_zip3 r q r3 q3 r4 q4)⟩
    · exact h1.elim
@[simp] theorem y_zip3 {t : EvA} {ρ : Env} : iZip3D t ρ = (t ρ).bdI fun rs ρ1 => match frzs ρ1 rs with
  | some ([.tuple ds, .tuple es, .tuple fs], ρ2) => .ok (zip3 ds es fs) ρ2
  | _ => .bad := rfl
end
end Pd
end
section
set_option Elab.async false
set_option linter.all false
set_option maxRecDepth 100000
set_option maxHeartbeats 4000000
namespace K10
open PySem L2 PyProof.Rows L2H Pd

def topS (i : Nat) : Stmt := PySem.Challenge.pw_printsheld_k10_whole_plates_for_labels.main.body.getD i (.Pass ⟨0, 0, 0, 0⟩)
def kn (n : String) : Bool := n == "OutOfRange" || n == "TooMuch"
def km (n : String) : Bool := n == "Malformed" || n == "NotThere" || n == "OutOfRange" || n == "PrintError" || n == "Refused" || n == "TooMuch"
def isE (n m : String) : Bool := n == m || (n == "OutOfRange" && m == "PrintError") || (n == "Malformed" && m == "PrintError") || (n == "NotThere" && m == "PrintError") || (n == "Refused" && m == "PrintError") || (n == "TooMuch" && m == "PrintError")
abbrev s__law_draws : Stmt := topS 29
abbrev N__law_draws : List Str := ["script", "draws", "cell", "seed", "k", "number", "first"]
theorem sc__law_draws : FnScope N__law_draws ["script"] (defScope s__law_draws) := ⟨rfl, rfl, rfl, by decide +kernel, rfl, by decide +kernel, by decide +kernel⟩
noncomputable def bd__law_draws : Sv :=
  sSeq (sSet 1 (eLst (aNil)))
  (sSeq (sFor (iSeq (eVar 0)) (tgN 2) (sSeq (sSet 5 (eBlt fAbs (aCons (eVar 2) (aNil))))
  (sSeq (sIf (eOpT fLt (eVar 5) (eOp fPow (eC (.int 10)) (eC (.int 18)))) (sSeq (sSet 6 (eOp fMod (eBlt fInt (aCons (eOp fAdd (eOp fMul (eVar 5) (eC (.int 48271))) (eC (.int 11))) (aNil))) (eC (.int 2147483647))))
  (sSeq (sDrop (eMet "list" 1 mAppend (aCons (eOp fMod (eBlt fInt (aCons (eOp fAdd (eOp fMul (eVar 6) (eC (.int 69621))) (eVar 5)) (aNil))) (eC (.int 2147483629))) (aNil))))
  (sSeq (sDrop (eMet "list" 1 mAppend (aCons (eOp fMod (eBlt fInt (aCons (eOp fAdd (eVar 6) (eOp fDiv (eVar 5) (eC (.int 7)))) (aNil))) (eC (.int 1000003))) (aNil))))
  (sSet 5 (eC (.int 0)))))) (sNx))
  (sFor (iRange rng1 (aCons (eC (.int 60)) (aNil))) (tgN 4) (sIf (eOpT fGt (eVar 5) (eC (.int 0))) (sSeq (sDrop (eMet "list" 1 mAppend (aCons (eOp fMod (eBlt fInt (aCons (eVar 5) (aNil))) (eC (.int 997))) (aNil))))
  (sSet 5 (eOp fDiv (eVar 5) (eC (.int 997))))) (sNx))))))
  (sSeq (sSet 3 (eC (.int 1)))
  (sSeq (sIf (eOpT fGt (eBlt fLen (aCons (eVar 0) (aNil))) (eC (.int 0))) (sSet 3 (eOp fAdd (eC (.int 1)) (eBlt fAbs (aCons (eOp (fIx false) (eVar 0) (eC (.int 0))) (aNil))))) (sNx))
  (sSeq (sFor (iRange rng1 (aCons (eC (.int 900)) (aNil))) (tgN 4) (sSeq (sSet 3 (eOp fMod (eBlt fInt (aCons (eOp fAdd (eOp fMul (eVar 3) (eC (.int 48271))) (eC (.int 69621))) (aNil))) (eC (.int 2147483647))))
  (sDrop (eMet "list" 1 mAppend (aCons (eOp fDiv (eVar 3) (eC (.int 5))) (aNil))))))
  (sRet (e1 fRevL (eVar 1)))))))
noncomputable def fn__law_draws : Fn := toFn 7 [false] bd__law_draws
abbrev s__law_layouts : Stmt := topS 35
abbrev N__law_layouts : List Str := ["many", "places", "found", "label", "later", "row", "one"]
theorem sc__law_layouts : FnScope N__law_layouts ["many", "places"] (defScope s__law_layouts) := ⟨rfl, rfl, rfl, by decide +kernel, rfl, by decide +kernel, by decide +kernel⟩
noncomputable def bd__law_layouts : Sv :=
  sSeq (sSet 2 (eLst (aCons (eTup (aNil)) (aNil))))
  (sSeq (sFor (iRange rng1 (aCons (eVar 0) (aNil))) (tgN 3) (sSeq (sSet 4 (eLst (aNil)))
  (sSeq (sFor (iSeq (eVar 2)) (tgN 5) (sSet 4 (eOp fAdd (eVar 4) (eLc [6] (tgN 6) (tTrue) (eOp fAdd (eVar 5) (eTup (aCons (eVar 6) (aNil)))) (iRange rng1 (aCons (eOp fAdd (eOp fSub (eVar 1) (eBlt fSum (aCons (eVar 5) (aNil)))) (eC (.int 1))) (aNil)))))))
  (sSet 2 (eVar 4)))))
  (sRet (eVar 2)))
noncomputable def fn__law_layouts : Fn := toFn 7 [false, false] bd__law_layouts
abbrev s__law_two : Stmt := topS 38
abbrev N__law_two : List Str := ["orders", "places", "best", "layouts", "one", "two", "runs", "left", "more", "k"]
theorem sc__law_two : FnScope N__law_two ["orders", "places"] (defScope s__law_two) := ⟨rfl, rfl, rfl, by decide +kernel, rfl, by decide +kernel, by decide +kernel⟩
noncomputable def bd__law_two : Sv :=
  sSeq (sSet 2 (eC .none))
  (sSeq (sSet 3 (eCall 2 fn__law_layouts (aCons (eBlt fLen (aCons (eVar 0) (aNil))) (aCons (eVar 1) (aNil)))))
  (sSeq (sFor (iSeq (eVar 3)) (tgN 4) (sFor (iSeq (eVar 3)) (tgN 5) (sFor (iRange rng1 (aCons (eOp fAdd (eBlt fMax (aCons (eVar 0) (aNil))) (eC (.int 1))) (aNil))) (tgN 6) (sSeq (sSet 7 (eLc [9] (tgN 9) (tTrue) (eBlt fMax (aCons (eC (.int 0)) (aCons (eOp fSub (eOp (fIx false) (eVar 0) (eVar 9)) (eOp fMul (eVar 6) (eOp (fIx false) (eVar 4) (eVar 9)))) (aNil)))) (iRange rng1 (aCons (eBlt fLen (aCons (eVar 0) (aNil))) (aNil)))))
  (sIf (eOpT fEq (eLc [9] (tgN 9) (eAnd (eOpT fGt (eOp (fIx false) (eVar 7) (eVar 9)) (eC (.int 0))) (eOpT fEq (eOp (fIx false) (eVar 5) (eVar 9)) (eC (.int 0)))) (eVar 9) (iRange rng1 (aCons (eBlt fLen (aCons (eVar 7) (aNil))) (aNil)))) (eLst (aNil))) (sSeq (sSet 8 (eBlt fMax (aCons (eOp fAdd (eLst (aCons (eC (.int 0)) (aNil))) (eLc [9] (tgN 9) (eOpT fGt (eOp (fIx false) (eVar 7) (eVar 9)) (eC (.int 0))) (eOp fDiv (eOp fSub (eOp fAdd (eOp (fIx false) (eVar 7) (eVar 9)) (eOp (fIx false) (eVar 5) (eVar 9))) (eC (.int 1))) (eOp (fIx false) (eVar 5) (eVar 9))) (iRange rng1 (aCons (eBlt fLen (aCons (eVar 7) (aNil))) (aNil))))) (aNil))))
  (sSet 2 (eIf (eOpT fIsN (eVar 2) (eC .none)) (eOp fAdd (eVar 6) (eVar 8)) (eBlt fMin (aCons (eVar 2) (aCons (eOp fAdd (eVar 6) (eVar 8)) (aNil))))))) (sNx))))))
  (sRet (eVar 2))))
noncomputable def fn__law_two : Fn := toFn 10 [false, false] bd__law_two
abbrev s__law_take : Stmt := topS 30
abbrev N__law_take : List Str := ["draws", "bound"]
theorem sc__law_take : FnScope N__law_take ["draws", "bound"] (defScope s__law_take) := ⟨rfl, rfl, rfl, by decide +kernel, rfl, by decide +kernel, by decide +kernel⟩
noncomputable def bd__law_take : Sv :=
  sSeq (sIf (eOpT fEq (eBlt fLen (aCons (eVar 0) (aNil))) (eC (.int 0))) (sRet (eC (.int 0))) (sNx))
  (sRet (eOp fMod (eBlt fInt (aCons (eMet "list" 0 mPop aNil) (aNil))) (eVar 1)))
noncomputable def fn__law_take : Fn := toFn 2 [true, false] bd__law_take
abbrev s__law_says : Stmt := topS 32
abbrev N__law_says : List Str := ["told", "due"]
theorem sc__law_says : FnScope N__law_says ["told", "due"] (defScope s__law_says) := ⟨rfl, rfl, rfl, by decide +kernel, rfl, by decide +kernel, by decide +kernel⟩
noncomputable def bd__law_says : Sv :=
  sRet (eAndV (e1 (fIsiV "bool") (eVar 0)) (eOp (boolRes fEq) (eVar 0) (eVar 1)))
noncomputable def fn__law_says : Fn := toFn 2 [false, false] bd__law_says
abbrev s__law_runs : Stmt := topS 36
abbrev N__law_runs : List Str := ["orders", "layout", "k"]
theorem sc__law_runs : FnScope N__law_runs ["orders", "layout"] (defScope s__law_runs) := ⟨rfl, rfl, rfl, by decide +kernel, rfl, by decide +kernel, by decide +kernel⟩
noncomputable def bd__law_runs : Sv :=
  sSeq (sIf (eOpT (fIn false) (eC (.int 0)) (eVar 1)) (sRet (eC .none)) (sNx))
  (sRet (eBlt fMax (aCons (eLc [2] (tgN 2) (tTrue) (eOp fAdd (eOp fDiv (eOp (fIx false) (eVar 0) (eVar 2)) (eOp (fIx false) (eVar 1) (eVar 2))) (eBlt fInt (aCons (eOp (boolRes fLt) (eOp fMul (eOp fDiv (eOp (fIx false) (eVar 0) (eVar 2)) (eOp (fIx false) (eVar 1) (eVar 2))) (eOp (fIx false) (eVar 1) (eVar 2))) (eOp (fIx false) (eVar 0) (eVar 2))) (aNil)))) (iRange rng1 (aCons (eBlt fLen (aCons (eVar 0) (aNil))) (aNil)))) (aNil))))
noncomputable def fn__law_runs : Fn := toFn 3 [false, false] bd__law_runs
abbrev s_is_number : Stmt := topS 8
abbrev N_is_number : List Str := ["value", "least", "most"]
theorem sc_is_number : FnScope N_is_number ["value", "least", "most"] (defScope s_is_number) := ⟨rfl, rfl, rfl, by decide +kernel, rfl, by decide +kernel, by decide +kernel⟩
noncomputable def bd_is_number : Sv :=
  sRet (eAndV (e1 (fIsiV "int") (eVar 0)) (eAndV (eNotV (e1 (fIsiV "bool") (eVar 0))) (eT (eChain fLe fLe (eVar 1) (eVar 0) (eVar 2)))))
noncomputable def fn_is_number : Fn := toFn 3 [false, false, false] bd_is_number
abbrev s_are_orders : Stmt := topS 13
abbrev N_are_orders : List Str := ["value", "one"]
theorem sc_are_orders : FnScope N_are_orders ["value"] (defScope s_are_orders) := ⟨rfl, rfl, rfl, by decide +kernel, rfl, by decide +kernel, by decide +kernel⟩
noncomputable def bd_are_orders : Sv :=
  sSeq (sIf (eOr (eNot (eB (e1 (fIsiV "tuple") (eVar 0)))) (eNot (eChain fLe fLe (eC (.int 1)) (eBlt fLen (aCons (eVar 0) (aNil))) (eC (.int (5)))))) (sRet (eC (.bool false))) (sNx))
  (sRet (eAllG [1] (tgN 1) (eCall 3 fn_is_number (aCons (eVar 1) (aCons (eC (.int 1)) (aCons (eC (.int (500))) (aNil))))) (iSeq (eVar 0))))
noncomputable def fn_are_orders : Fn := toFn 2 [false] bd_are_orders
abbrev s__law_alike : Stmt := topS 31
abbrev N__law_alike : List Str := ["found", "due", "k"]
theorem sc__law_alike : FnScope N__law_alike ["found", "due"] (defScope s__law_alike) := ⟨rfl, rfl, rfl, by decide +kernel, rfl, by decide +kernel, by decide +kernel⟩
noncomputable def bd__law_alike (rec : Fn) : Sv :=
  sSeq (sIf (eOr (eB (e1 (fIsiV "list") (eVar 1))) (eB (e1 (fIsiV "tuple") (eVar 1)))) (sSeq (sIf (eOr (eOpT fNe (e1 (fIsiV "list") (eVar 0)) (e1 (fIsiV "list") (eVar 1))) (eOpT fNe (e1 (fIsiV "tuple") (eVar 0)) (e1 (fIsiV "tuple") (eVar 1)))) (sRet (eC (.bool false))) (sNx))
  (sRet (eAndV (eOp (boolRes fEq) (eBlt fLen (aCons (eVar 0) (aNil))) (eBlt fLen (aCons (eVar 1) (aNil)))) (eOp (boolRes fEq) (eLc [2] (tgN 2) (eNot (eB (eCall 2 rec (aCons (eOp (fIx false) (eVar 0) (eVar 2)) (aCons (eOp (fIx false) (eVar 1) (eVar 2)) (aNil)))))) (eVar 2) (iRange rng1 (aCons (eBlt fLen (aCons (eVar 1) (aNil))) (aNil)))) (eLst (aNil)))))) (sNx))
  (sSeq (sIf (eOpT fIsN (eVar 1) (eC .none)) (sRet (eOp (boolRes fIsN) (eVar 0) (eC .none))) (sNx))
  (sSeq (sIf (eOr (eB (e1 (fIsiV "bool") (eVar 1))) (eB (e1 (fIsiV "bool") (eVar 0)))) (sRet (eAndV (e1 (fIsiV "bool") (eVar 0)) (eAndV (e1 (fIsiV "bool") (eVar 1)) (eOp (boolRes fEq) (eVar 0) (eVar 1))))) (sNx))
  (sSeq (sIf (eB (e1 (fIsiV "int") (eVar 1))) (sRet (eAndV (e1 (fIsiV "int") (eVar 0)) (eOp (boolRes fEq) (eVar 0) (eVar 1)))) (sNx))
  (sRet (eAndV (e1 (fIsiV "str") (eVar 0)) (eOp (boolRes fEq) (eVar 0) (eVar 1)))))))
noncomputable def fr__law_alike : Nat → Fn
  | 0 => fun _ => .bad
  | n + 1 => toFn 3 [false, false] (bd__law_alike (fr__law_alike n))
noncomputable def fn__law_alike : Fn := fr__law_alike 8
abbrev s_check_places : Stmt := topS 15
abbrev N_check_places : List Str := ["places"]
theorem sc_check_places : FnScope N_check_places ["places"] (defScope s_check_places) := ⟨rfl, rfl, rfl, by decide +kernel, rfl, by decide +kernel, by decide +kernel⟩
noncomputable def bd_check_places : Sv :=
  sIf (eNot (eB (eCall 3 fn_is_number (aCons (eVar 0) (aCons (eC (.int 1)) (aCons (eC (.int (12))) (aNil))))))) (sRaise "OutOfRange") (sNx)
noncomputable def fn_check_places : Fn := toFn 1 [false] bd_check_places
abbrev s_needed : Stmt := topS 17
abbrev N_needed : List Str := ["orders", "runs", "order"]
theorem sc_needed : FnScope N_needed ["orders", "runs"] (defScope s_needed) := ⟨rfl, rfl, rfl, by decide +kernel, rfl, by decide +kernel, by decide +kernel⟩
noncomputable def bd_needed : Sv :=
  sRet (eBlt fTuple (aCons (eLc [2] (tgN 2) (tTrue) (eOp fDiv (eOp fSub (eOp fAdd (eVar 2) (eVar 1)) (eC (.int 1))) (eVar 1)) (iSeq (eVar 0))) (aNil)))
noncomputable def fn_needed : Fn := toFn 3 [false, false] bd_needed
abbrev s_fewest_runs : Stmt := topS 18
abbrev N_fewest_runs : List Str := ["orders", "places", "runs"]
theorem sc_fewest_runs : FnScope N_fewest_runs ["orders", "places"] (defScope s_fewest_runs) := ⟨rfl, rfl, rfl, by decide +kernel, rfl, by decide +kernel, by decide +kernel⟩
noncomputable def bd_fewest_runs : Sv :=
  sSeq (sDrop (eCall 1 fn_check_places (aCons (eVar 1) (aNil))))
  (sSeq (sIf (eOpT fLt (eVar 1) (eBlt fLen (aCons (eVar 0) (aNil)))) (sRet (eC .none)) (sNx))
  (sSeq (sSet 2 (eC (.int 1)))
  (sSeq (sWhile (eOpT fGt (eBlt fSum (aCons (eCall 2 fn_needed (aCons (eVar 0) (aCons (eVar 2) (aNil)))) (aNil))) (eVar 1)) (sAug 2 fAddI (eC (.int 1))))
  (sRet (eVar 2)))))
noncomputable def fn_fewest_runs : Fn := toFn 3 [false, false] bd_fewest_runs
abbrev s_told_layout : Stmt := topS 19
abbrev N_told_layout : List Str := ["orders", "places", "runs"]
theorem sc_told_layout : FnScope N_told_layout ["orders", "places"] (defScope s_told_layout) := ⟨rfl, rfl, rfl, by decide +kernel, rfl, by decide +kernel, by decide +kernel⟩
noncomputable def bd_told_layout : Sv :=
  sSeq (sSet 2 (eCall 2 fn_fewest_runs (aCons (eVar 0) (aCons (eVar 1) (aNil)))))
  (sRet (eIf (eOpT fIsN (eVar 2) (eC .none)) (eC .none) (eCall 2 fn_needed (aCons (eVar 0) (aCons (eVar 2) (aNil))))))
noncomputable def fn_told_layout : Fn := toFn 3 [false, false] bd_told_layout
abbrev s_all_layouts : Stmt := topS 25
abbrev N_all_layouts : List Str := ["many", "places", "found", "_", "row", "one"]
theorem sc_all_layouts : FnScope N_all_layouts ["many", "places"] (defScope s_all_layouts) := ⟨rfl, rfl, rfl, by decide +kernel, rfl, by decide +kernel, by decide +kernel⟩
noncomputable def bd_all_layouts : Sv :=
  sSeq (sSet 2 (eLst (aCons (eTup (aNil)) (aNil))))
  (sSeq (sFor (iRange rng1 (aCons (eVar 0) (aNil))) (tgN 3) (sSet 2 (eLc2 [4, 5] (tgN 4) (tTrue) (iRange rng1 (aCons (eOp fAdd (eOp fSub (eVar 1) (eBlt fSum (aCons (eVar 4) (aNil)))) (eC (.int 1))) (aNil))) [5] (tgN 5) (tTrue) (eTup (aStar (eVar 4) (aCons (eVar 5) (aNil)))) (iSeq (eVar 2)))))
  (sRet (eVar 2)))
noncomputable def fn_all_layouts : Fn := toFn 6 [false, false] bd_all_layouts
abbrev s_second_runs : Stmt := topS 26
abbrev N_second_runs : List Str := ["orders", "first", "runs", "second", "most", "order", "one", "two", "left"]
theorem sc_second_runs : FnScope N_second_runs ["orders", "first", "runs", "second"] (defScope s_second_runs) := ⟨rfl, rfl, rfl, by decide +kernel, rfl, by decide +kernel, by decide +kernel⟩
noncomputable def bd_second_runs : Sv :=
  sSeq (sSet 4 (eC (.int 0)))
  (sSeq (sFor (iZip3D (aCons (eVar 0) (aCons (eVar 1) (aCons (eVar 3) (aNil))))) (tgT [tgN 5, tgN 6, tgN 7]) (sSeq (sSet 8 (eBlt fMax (aCons (eC (.int 0)) (aCons (eOp fSub (eVar 5) (eOp fMul (eVar 2) (eVar 6))) (aNil)))))
  (sSeq (sIf (eAnd (eOpT fGt (eVar 8) (eC (.int 0))) (eOpT fEq (eVar 7) (eC (.int 0)))) (sRet (eC .none)) (sNx))
  (sIf (eOpT fGt (eVar 8) (eC (.int 0))) (sSet 4 (eBlt fMax (aCons (eVar 4) (aCons (eOp fDiv (eOp fSub (eOp fAdd (eVar 8) (eVar 7)) (eC (.int 1))) (eVar 7)) (aNil))))) (sNx)))))
  (sRet (eVar 4)))
noncomputable def fn_second_runs : Fn := toFn 9 [false, false, false, false] bd_second_runs
abbrev s_least_sum : Stmt := topS 27
abbrev N_least_sum : List Str := ["orders", "places", "layouts", "best", "first", "second", "runs", "more"]
theorem sc_least_sum : FnScope N_least_sum ["orders", "places"] (defScope s_least_sum) := ⟨rfl, rfl, rfl, by decide +kernel, rfl, by decide +kernel, by decide +kernel⟩
noncomputable def bd_least_sum : Sv :=
  sSeq (sIf (eNot (eB (eCall 3 fn_is_number (aCons (eVar 1) (aCons (eC (.int 1)) (aCons (eC (.int (4))) (aNil))))))) (sRaise "OutOfRange") (sNx))
  (sSeq (sIf (eOr (eOpT fGt (eBlt fLen (aCons (eVar 0) (aNil))) (eC (.int (3)))) (eOpT fGt (eBlt fMax (aCons (eVar 0) (aNil))) (eC (.int (60))))) (sRaise "TooMuch") (sNx))
  (sSeq (sSet 2 (eCall 2 fn_all_layouts (aCons (eBlt fLen (aCons (eVar 0) (aNil))) (aCons (eVar 1) (aNil)))))
  (sSeq (sSet 3 (eC .none))
  (sSeq (sFor (iSeq (eVar 2)) (tgN 4) (sFor (iSeq (eVar 2)) (tgN 5) (sFor (iRange rng1 (aCons (eOp fAdd (eBlt fMax (aCons (eVar 0) (aNil))) (eC (.int 1))) (aNil))) (tgN 6) (sSeq (sIf (eAnd (eOpT fNotN (eVar 3) (eC .none)) (eOpT fGe (eVar 6) (eVar 3))) (sBk) (sNx))
  (sSeq (sSet 7 (eCall 4 fn_second_runs (aCons (eVar 0) (aCons (eVar 4) (aCons (eVar 6) (aCons (eVar 5) (aNil)))))))
  (sIf (eAnd (eOpT fNotN (eVar 7) (eC .none)) (eOr (eOpT fIsN (eVar 3) (eC .none)) (eOpT fLt (eOp fAdd (eVar 6) (eVar 7)) (eVar 3)))) (sSet 3 (eOp fAdd (eVar 6) (eVar 7))) (sNx)))))))
  (sRet (eVar 3))))))
noncomputable def fn_least_sum : Fn := toFn 8 [false, false] bd_least_sum
abbrev s__law_word : Stmt := topS 33
abbrev N__law_word : List Str := ["e", "kinds", "one"]
theorem sc__law_word : FnScope N__law_word ["e"] (defScope s__law_word) := ⟨rfl, rfl, rfl, by decide +kernel, rfl, by decide +kernel, by decide +kernel⟩
noncomputable def bd__law_word : Sv :=
  sSeq (sSet 1 (eLst (aCons (eIsE kn km isE 0 "OutOfRange") (aCons (eIsE kn km isE 0 "Malformed") (aCons (eIsE kn km isE 0 "NotThere") (aCons (eIsE kn km isE 0 "Refused") (aCons (eIsE kn km isE 0 "TooMuch") (aNil))))))))
  (sSeq (sIf (eOpT fNe (eBlt fLen (aCons (eLc [2] (tgN 2) (eB (eVar 2)) (eVar 2) (iSeqL (eVar 1))) (aNil))) (eC (.int 1))) (sRet (eC (.str "many"))) (sNx))
  (sRet (eOp (fIx false) (eLst (aCons (eC (.str "range")) (aCons (eC (.str "form")) (aCons (eC (.str "none")) (aCons (eC (.str "refused")) (aCons (eC (.str "much")) (aNil))))))) (eMetR "list" mIndex (eVar 1) (aCons (eC (.bool true)) (aNil))))))
noncomputable def fn__law_word : FnE := toFnX 3 bd__law_word
abbrev s__law_told : Stmt := topS 34
abbrev N__law_told : List Str := ["which", "orders", "places", "e"]
theorem sc__law_told : FnScope N__law_told ["which", "orders", "places"] (defScope s__law_told) := ⟨rfl, rfl, rfl, by decide +kernel, rfl, by decide +kernel, by decide +kernel⟩
noncomputable def bd__law_told : Sv :=
  sTry kn km isE "PrintError" 3 (sSeq (sIf (eOpT fEq (eVar 0) (eC (.int 0))) (sRet (eCall 2 fn_fewest_runs (aCons (eVar 1) (aCons (eVar 2) (aNil))))) (sNx))
  (sRet (eIf (eOpT fEq (eVar 0) (eC (.int 1))) (eCall 2 fn_told_layout (aCons (eVar 1) (aCons (eVar 2) (aNil)))) (eCall 2 fn_least_sum (aCons (eVar 1) (aCons (eVar 2) (aNil))))))) (sRet (eCallX 3 fn__law_word))
noncomputable def fn__law_told : Fn := toFn 4 [false, false, false] bd__law_told
abbrev s_is_layout : Stmt := topS 14
abbrev N_is_layout : List Str := ["orders", "places", "value", "one"]
theorem sc_is_layout : FnScope N_is_layout ["orders", "places", "value"] (defScope s_is_layout) := ⟨rfl, rfl, rfl, by decide +kernel, rfl, by decide +kernel, by decide +kernel⟩
noncomputable def bd_is_layout : Sv :=
  sSeq (sIf (eOr (eNot (eB (e1 (fIsiV "tuple") (eVar 2)))) (eOpT fNe (eBlt fLen (aCons (eVar 2) (aNil))) (eBlt fLen (aCons (eVar 0) (aNil))))) (sRet (eC (.bool false))) (sNx))
  (sRet (eAndV (eAllG [3] (tgN 3) (eCall 3 fn_is_number (aCons (eVar 3) (aCons (eC (.int 0)) (aCons (eVar 1) (aNil))))) (iSeq (eVar 2))) (eOp (boolRes fLe) (eBlt fSum (aCons (eVar 2) (aNil))) (eVar 1))))
noncomputable def fn_is_layout : Fn := toFn 4 [false, false, false] bd_is_layout
abbrev s__law_given : Stmt := topS 37
abbrev N__law_given : List Str := ["orders", "places", "row", "asks", "k"]
theorem sc__law_given : FnScope N__law_given ["orders", "places"] (defScope s__law_given) := ⟨rfl, rfl, rfl, by decide +kernel, rfl, by decide +kernel, by decide +kernel⟩
noncomputable def bd__law_given : Sv :=
  sSeq (sSet 2 (eOp fMul (eLst (aCons (eC (.int 1)) (aNil))) (eBlt fLen (aCons (eVar 0) (aNil)))))
  (sSeq (sWhile (eOpT fLt (eBlt fSum (aCons (eVar 2) (aNil))) (eVar 1)) (sSeq (sSet 3 (eLc [4] (tgN 4) (tTrue) (eCall 2 fn__law_runs (aCons (eTup (aCons (eOp (fIx false) (eVar 0) (eVar 4)) (aNil))) (aCons (eTup (aCons (eOp (fIx false) (eVar 2) (eVar 4)) (aNil))) (aNil)))) (iRange rng1 (aCons (eBlt fLen (aCons (eVar 0) (aNil))) (aNil)))))
  (sSeq (sSet 4 (eMetR "list" mIndex (eVar 3) (aCons (eBlt fMax (aCons (eVar 3) (aNil))) (aNil))))
  (sPut false 2 (eVar 4) (eOp fAdd (eOp (fIx false) (eVar 2) (eVar 4)) (eC (.int 1)))))))
  (sRet (eCall 2 fn__law_runs (aCons (eVar 0) (aCons (eBlt fTuple (aCons (eVar 2) (aNil))) (aNil))))))
noncomputable def fn__law_given : Fn := toFn 5 [false, false] bd__law_given
abbrev s_runs_of : Stmt := topS 16
abbrev N_runs_of : List Str := ["orders", "layout", "order", "many"]
theorem sc_runs_of : FnScope N_runs_of ["orders", "layout"] (defScope s_runs_of) := ⟨rfl, rfl, rfl, by decide +kernel, rfl, by decide +kernel, by decide +kernel⟩
noncomputable def bd_runs_of : Sv :=
  sSeq (sIf (eOpT fEq (eBlt fMin (aCons (eVar 1) (aNil))) (eC (.int 0))) (sRet (eC .none)) (sNx))
  (sRet (eBlt fMax (aCons (eLc [2, 3] (tgT [tgN 2, tgN 3]) (tTrue) (eOp fDiv (eOp fSub (eOp fAdd (eVar 2) (eVar 3)) (eC (.int 1))) (eVar 3)) (iZipD (aCons (eVar 0) (aCons (eVar 1) (aNil))))) (aNil))))
noncomputable def fn_runs_of : Fn := toFn 4 [false, false] bd_runs_of
abbrev s_waste_of : Stmt := topS 20
abbrev N_waste_of : List Str := ["orders", "layout", "runs"]
theorem sc_waste_of : FnScope N_waste_of ["orders", "layout"] (defScope s_waste_of) := ⟨rfl, rfl, rfl, by decide +kernel, rfl, by decide +kernel, by decide +kernel⟩
noncomputable def bd_waste_of : Sv :=
  sSeq (sSet 2 (eCall 2 fn_runs_of (aCons (eVar 0) (aCons (eVar 1) (aNil)))))
  (sRet (eIf (eOpT fIsN (eVar 2) (eC .none)) (eC .none) (eOp fSub (eOp fMul (eVar 2) (eBlt fSum (aCons (eVar 1) (aNil)))) (eBlt fSum (aCons (eVar 0) (aNil))))))
noncomputable def fn_waste_of : Fn := toFn 3 [false, false] bd_waste_of
abbrev s_law : Stmt := topS 39
abbrev N_law : List Str := ["script", "draws", "wide", "orders", "many", "before", "places", "turn", "few", "due", "words", "odd", "rows", "row", "runs", "waste", "double", "least", "label", "order", "value", "bad", "k", "which"]
theorem sc_law : FnScope N_law ["script"] (defScope s_law) := ⟨rfl, rfl, rfl, by decide +kernel, rfl, by decide +kernel, by decide +kernel⟩
noncomputable def bd_law : Sv :=
  sSeq (sSet 1 (eCall 1 fn__law_draws (aCons (eVar 0) (aNil))))
  (sSeq (sSet 2 (eOp (fIx false) (eLst (aCons (eC (.int 4)) (aCons (eC (.int 30)) (aCons (eC (.int 500)) (aNil))))) (eCallM [true, false] fn__law_take (aCons (eVar 1) (aCons (eC (.int 3)) (aNil))))))
  (sSeq (sSet 3 (eBlt fTuple (aCons (eLc [18] (tgN 18) (tTrue) (eOp fAdd (eC (.int 1)) (eCallM [true, false] fn__law_take (aCons (eVar 1) (aCons (eVar 2) (aNil))))) (iRange rng1 (aCons (eOp fAdd (eC (.int 1)) (eCallM [true, false] fn__law_take (aCons (eVar 1) (aCons (eC (.int 4)) (aNil))))) (aNil)))) (aNil))))
  (sSeq (sSet 4 (eBlt fLen (aCons (eVar 3) (aNil))))
  (sSeq (sIf (eNot (eB (eCall 2 fn__law_says (aCons (eCall 1 fn_are_orders (aCons (eVar 3) (aNil))) (aCons (eC (.bool true)) (aNil)))))) (sRet (eC (.bool false))) (sNx))
  (sSeq (sSet 5 (eC .none))
  (sSeq (sFor (iRange rng2 (aCons (eC (.int 1)) (aCons (eC (.int 9)) (aNil)))) (tgN 6) (sSeq (sSet 12 (eBlt fSortI (aCons (eLc [13] (tgN 13) (eOpT (fNotIn false) (eC (.int 0)) (eVar 13)) (eTup (aCons (eCall 2 fn__law_runs (aCons (eVar 3) (aCons (eVar 13) (aNil)))) (aCons (eVar 13) (aNil)))) (iSeq (eCall 2 fn__law_layouts (aCons (eVar 4) (aCons (eVar 6) (aNil)))))) (aNil))))
  (sSeq (sSet 9 (eIf (eOpT fNe (eVar 12) (eLst (aNil))) (eOp (fIx false) (eVar 12) (eC (.int 0))) (eTup (aCons (eC .none) (aCons (eC .none) (aNil))))))
  (sSeq (sIf (eOr (eNot (eB (eCall 2 fn__law_alike (aCons (eLst (aCons (eCall 3 fn__law_told (aCons (eC (.int 0)) (aCons (eVar 3) (aCons (eVar 6) (aNil))))) (aCons (eCall 3 fn__law_told (aCons (eC (.int 1)) (aCons (eVar 3) (aCons (eVar 6) (aNil))))) (aNil)))) (aCons (eLst (aCons (eOp (fIx false) (eVar 9) (eC (.int 0))) (aCons (eOp (fIx false) (eVar 9) (eC (.int 1))) (aNil)))) (aNil)))))) (eOpT fNe (eOp (boolRes fEq) (eVar 12) (eLst (aNil))) (eOp (boolRes fLt) (eVar 6) (eVar 4)))) (sRet (eC (.bool false))) (sNx))
  (sIf (eOpT fNe (eVar 12) (eLst (aNil))) (sSeq (sSet 17 (eBlt fMax (aCons (eOp fDiv (eOp fSub (eOp fAdd (eBlt fSum (aCons (eVar 3) (aNil))) (eVar 6)) (eC (.int 1))) (eVar 6)) (aCons (eOp fDiv (eOp fSub (eOp fAdd (eBlt fMax (aCons (eVar 3) (aNil))) (eVar 6)) (eVar 4)) (eOp fAdd (eOp fSub (eVar 6) (eVar 4)) (eC (.int 1)))) (aNil)))))
  (sSeq (sIf (eOr (eOpT fLt (eOp (fIx false) (eVar 9) (eC (.int 0))) (eVar 17)) (eOr (eAnd (eOpT fNotN (eVar 5) (eC .none)) (eOpT fGt (eOp (fIx false) (eVar 9) (eC (.int 0))) (eVar 5))) (eOpT fNe (eCall 2 fn__law_given (aCons (eVar 3) (aCons (eVar 6) (aNil)))) (eOp (fIx false) (eVar 9) (eC (.int 0)))))) (sRet (eC (.bool false))) (sNx))
  (sSeq (sIf (eOr (eOpT fNe (eLc [22] (tgN 22) (eOpT fLe (eBlt fSum (aCons (eLc [19] (tgN 19) (tTrue) (eOp fDiv (eOp fSub (eOp fAdd (eVar 19) (eVar 22)) (eC (.int 1))) (eVar 22)) (iSeq (eVar 3))) (aNil))) (eVar 6)) (eVar 22) (iRange rng2 (aCons (eC (.int 1)) (aCons (eBlt fMin (aCons (eOp (fIx false) (eVar 9) (eC (.int 0))) (aCons (eC (.int 40)) (aNil)))) (aNil))))) (eLst (aNil))) (eOpT fGt (eBlt fSum (aCons (eLc [19] (tgN 19) (tTrue) (eOp fDiv (eOp fSub (eOp fAdd (eVar 19) (eOp (fIx false) (eVar 9) (eC (.int 0)))) (eC (.int 1))) (eOp (fIx false) (eVar 9) (eC (.int 0)))) (iSeq (eVar 3))) (aNil))) (eVar 6))) (sRet (eC (.bool false))) (sNx))
  (sSet 5 (eOp (fIx false) (eVar 9) (eC (.int 0))))))) (sNx))))))
  (sSeq (sFor (iRange rng1 (aCons (eC (.int 6)) (aNil))) (tgN 7) (sSeq (sSet 6 (eOp fAdd (eC (.int 1)) (eCallM [true, false] fn__law_take (aCons (eVar 1) (aCons (eC (.int 12)) (aNil))))))
  (sSeq (sSet 13 (eBlt fTuple (aCons (eLc [18] (tgN 18) (tTrue) (eCallM [true, false] fn__law_take (aCons (eVar 1) (aCons (eC (.int 5)) (aNil)))) (iSeq (eVar 3))) (aNil))))
  (sSeq (sIf (eNot (eB (eCall 2 fn__law_says (aCons (eCall 3 fn_is_layout (aCons (eVar 3) (aCons (eVar 6) (aCons (eVar 13) (aNil))))) (aCons (eAndV (eOp (boolRes fLe) (eBlt fSum (aCons (eVar 13) (aNil))) (eVar 6)) (eOp (boolRes fLe) (eBlt fMax (aCons (eVar 13) (aNil))) (eVar 6))) (aNil)))))) (sRet (eC (.bool false))) (sNx))
  (sSeq (sSet 14 (eCall 2 fn__law_runs (aCons (eVar 3) (aCons (eVar 13) (aNil)))))
  (sSeq (sSet 15 (eIf (eOpT fNotN (eVar 14) (eC .none)) (eBlt fSum (aCons (eLc [22] (tgN 22) (tTrue) (eOp fSub (eOp fMul (eVar 14) (eOp (fIx false) (eVar 13) (eVar 22))) (eOp (fIx false) (eVar 3) (eVar 22))) (iRange rng1 (aCons (eVar 4) (aNil)))) (aNil))) (eC .none)))
  (sIf (eNot (eB (eCall 2 fn__law_alike (aCons (eLst (aCons (eCall 2 fn_runs_of (aCons (eVar 3) (aCons (eVar 13) (aNil)))) (aCons (eCall 2 fn_waste_of (aCons (eVar 3) (aCons (eVar 13) (aNil)))) (aNil)))) (aCons (eLst (aCons (eVar 14) (aCons (eVar 15) (aNil)))) (aNil)))))) (sRet (eC (.bool false))) (sNx))))))))
  (sSeq (sIf (eOpT fLt (eVar 2) (eC (.int 500))) (sSeq (sSet 16 (eBlt fTuple (aCons (eLc [19] (tgN 19) (tTrue) (eOp fMul (eC (.int 2)) (eVar 19)) (iSeq (eVar 3))) (aNil))))
  (sIf (eOpT fGt (eCall 2 fn_fewest_runs (aCons (eVar 16) (aCons (eC (.int 12)) (aNil)))) (eOp fMul (eC (.int 2)) (eCall 2 fn_fewest_runs (aCons (eVar 3) (aCons (eC (.int 12)) (aNil)))))) (sRet (eC (.bool false))) (sNx))) (sNx))
  (sSeq (sSet 8 (eBlt fTuple (aCons (eLc [19] (tgN 19) (tTrue) (eIf (eOpT fGt (eVar 19) (eC (.int 12))) (eOp fAdd (eC (.int 1)) (eOp fDiv (eVar 19) (eC (.int 60)))) (eVar 19)) (iSeq (eSl (eVar 3) (pNo) (pAt (eC (.int 3)))))) (aNil))))
  (sSeq (sSet 6 (eOp fAdd (eC (.int 1)) (eCallM [true, false] fn__law_take (aCons (eVar 1) (aCons (eIf (eOpT fEq (eBlt fLen (aCons (eVar 8) (aNil))) (eC (.int 3))) (eC (.int 2)) (eC (.int 3))) (aNil))))))
  (sSeq (sSet 9 (eCall 2 fn__law_two (aCons (eVar 8) (aCons (eVar 6) (aNil)))))
  (sSeq (sIf (eOr (eNot (eB (eCall 2 fn__law_alike (aCons (eCall 3 fn__law_told (aCons (eC (.int 2)) (aCons (eVar 8) (aCons (eVar 6) (aNil))))) (aCons (eVar 9) (aNil)))))) (eOr (eAnd (eOpT fNotN (eVar 9) (eC .none)) (eOpT fLt (eVar 9) (eOp fDiv (eOp fSub (eOp fAdd (eBlt fSum (aCons (eVar 8) (aNil))) (eVar 6)) (eC (.int 1))) (eVar 6)))) (eAnd (eOpT fGe (eVar 6) (eBlt fLen (aCons (eVar 8) (aNil)))) (eOpT fGt (eVar 9) (eCall 2 fn_fewest_runs (aCons (eVar 8) (aCons (eVar 6) (aNil)))))))) (sRet (eC (.bool false))) (sNx))
  (sSeq (sIf (eOr (eOpT fNe (eOp (boolRes fIsN) (eVar 9) (eC .none)) (eOp (boolRes fLt) (eOp fMul (eC (.int 2)) (eVar 6)) (eBlt fLen (aCons (eVar 8) (aNil))))) (eOr (eOpT fNe (eCall 3 fn__law_told (aCons (eC (.int 2)) (aCons (eTup (aCons (eC (.int 60)) (aCons (eC (.int 40)) (aNil)))) (aCons (eC (.int 2)) (aNil))))) (eC (.int 50))) (eOpT fNotN (eCall 3 fn__law_told (aCons (eC (.int 2)) (aCons (eTup (aCons (eC (.int 1)) (aCons (eC (.int 1)) (aCons (eC (.int 1)) (aNil))))) (aCons (eC (.int 1)) (aNil))))) (eC .none)))) (sRet (eC (.bool false))) (sNx))
  (sSeq (sSet 10 (eOp fAdd (eOp fAdd (eLc [23, 21] (tgT [tgN 23, tgN 21]) (tTrue) (eCall 3 fn__law_told (aCons (eVar 23) (aCons (eVar 3) (aCons (eVar 21) (aNil))))) (iSeq (eLst (aCons (eTup (aCons (eC (.int 0)) (aCons (eC (.int 0)) (aNil)))) (aCons (eTup (aCons (eC (.int 0)) (aCons (eC (.int 13)) (aNil)))) (aCons (eTup (aCons (eC (.int 1)) (aCons (eC (.int 0)) (aNil)))) (aCons (eTup (aCons (eC (.int 1)) (aCons (eC (.int 13)) (aNil)))) (aNil)))))))) (eLc [21] (tgN 21) (tTrue) (eCall 3 fn__law_told (aCons (eC (.int 2)) (aCons (eVar 21) (aCons (eC (.int 0)) (aNil))))) (iSeq (eLst (aCons (eTup (aCons (eC (.int 1)) (aNil))) (aCons (eOp fMul (eTup (aCons (eC (.int 1)) (aNil))) (eC (.int 5))) (aNil))))))) (eLst (aCons (eCall 3 fn__law_told (aCons (eC (.int 2)) (aCons (eTup (aCons (eC (.int 1)) (aNil))) (aCons (eC (.int 5)) (aNil))))) (aNil)))))
  (sSeq (sIf (eOr (eOpT fNe (eVar 10) (eOp fMul (eLst (aCons (eC (.str "range")) (aNil))) (eC (.int 7)))) (eOpT fNe (eLc [21] (tgN 21) (tTrue) (eCall 3 fn__law_told (aCons (eC (.int 2)) (aCons (eVar 21) (aCons (eC (.int 2)) (aNil))))) (iSeq (eLst (aCons (eOp fMul (eTup (aCons (eC (.int 1)) (aNil))) (eC (.int 4))) (aCons (eTup (aCons (eC (.int 61)) (aNil))) (aNil)))))) (eOp fMul (eLst (aCons (eC (.str "much")) (aNil))) (eC (.int 2))))) (sRet (eC (.bool false))) (sNx))
  (sSeq (sSet 11 (eLst (aCons (eC .none) (aCons (eLst (aCons (eC (.int 1)) (aCons (eC (.int 2)) (aNil)))) (aCons (eTup (aCons (eC (.int 1)) (aNil))) (aCons (eTup (aCons (eC (.int 1)) (aCons (eC (.int 2)) (aCons (eC (.int 0)) (aNil))))) (aCons (eTup (aCons (eC (.int 2)) (aCons (eC (.int 3)) (aNil)))) (aCons (eTup (aCons (e1 fNeg (eC (.int 1))) (aCons (eC (.int 2)) (aNil)))) (aCons (eTup (aCons (eC (.bool true)) (aCons (eC (.int 2)) (aNil)))) (aCons (eTup (aCons (eC (.int 1)) (aCons (eC .none) (aNil)))) (aCons (eTup (aCons (eC (.int 5)) (aCons (eC (.int 0)) (aNil)))) (aNil))))))))))))
  (sSeq (sIf (eOr (eOpT fNe (eLc [20] (tgN 20) (eNot (eB (eCall 2 fn__law_says (aCons (eCall 3 fn_is_layout (aCons (eTup (aCons (eC (.int 9)) (aCons (eC (.int 9)) (aNil)))) (aCons (eC (.int 4)) (aCons (eVar 20) (aNil))))) (aCons (eC (.bool false)) (aNil)))))) (eVar 20) (iSeq (eVar 11))) (eLst (aNil))) (eOpT fNotN (eCall 3 fn_is_layout (aCons (eTup (aCons (eC (.int 9)) (aCons (eC (.int 9)) (aNil)))) (aCons (eC (.int 4)) (aCons (eTup (aCons (eC (.int 4)) (aCons (eC (.int 0)) (aNil)))) (aNil))))) (eC (.bool true)))) (sRet (eC (.bool false))) (sNx))
  (sSeq (sSet 11 (eLst (aCons (eC .none) (aCons (eTup (aNil)) (aCons (eLst (aCons (eC (.int 1)) (aNil))) (aCons (eTup (aCons (eC (.int 0)) (aNil))) (aCons (eTup (aCons (eC (.int 501)) (aNil))) (aCons (eTup (aCons (e1 fNeg (eC (.int 1))) (aNil))) (aCons (eTup (aCons (eC (.bool true)) (aNil))) (aCons (eTup (aCons (eC .none) (aNil))) (aCons (eOp fMul (eTup (aCons (eC (.int 1)) (aNil))) (eC (.int 6))) (aNil))))))))))))
  (sRet (eOp (boolRes fEq) (eLc [20] (tgN 20) (eNot (eB (eCall 2 fn__law_says (aCons (eCall 1 fn_are_orders (aCons (eVar 20) (aNil))) (aCons (eC (.bool false)) (aNil)))))) (eVar 20) (iSeq (eVar 11))) (eLst (aNil))))))))))))))))))))))
noncomputable def fn_law : Fn := toFn 24 [false] bd_law
structure Txt (K : PySem.W.Frag) (mg : Str → Option Value) (ad : Nat → Addr) (fd : Nat → FuncData) (ec : String → Addr) (tb : Addr → Prop) : Prop where
  F__law_draws : Fun K "_law_draws" "_law_draws" s__law_draws (ad 0) (fd 0)
  g__law_draws : mg "_law_draws" = some (.ref (ad 0))
  b__law_draws : Binds K (fd 0) ["script"] []
  F__law_layouts : Fun K "_law_layouts" "_law_layouts" s__law_layouts (ad 1) (fd 1)
  g__law_layouts : mg "_law_layouts" = some (.ref (ad 1))
  b__law_layouts : Binds K (fd 1) ["many", "places"] []
  F__law_two : Fun K "_law_two" "_law_two" s__law_two (ad 2) (fd 2)
  g__law_two : mg "_law_two" = some (.ref (ad 2))
  b__law_two : Binds K (fd 2) ["orders", "places"] []
  F__law_take : Fun K "_law_take" "_law_take" s__law_take (ad 3) (fd 3)
  g__law_take : mg "_law_take" = some (.ref (ad 3))
  b__law_take : Binds K (fd 3) ["draws", "bound"] []
  F__law_says : Fun K "_law_says" "_law_says" s__law_says (ad 4) (fd 4)
  g__law_says : mg "_law_says" = some (.ref (ad 4))
  b__law_says : Binds K (fd 4) ["told", "due"] []
  F__law_runs : Fun K "_law_runs" "_law_runs" s__law_runs (ad 5) (fd 5)
  g__law_runs : mg "_law_runs" = some (.ref (ad 5))
  b__law_runs : Binds K (fd 5) ["orders", "layout"] []
  F_is_number : Fun K "is_number" "is_number" s_is_number (ad 6) (fd 6)
  g_is_number : mg "is_number" = some (.ref (ad 6))
  b_is_number : Binds K (fd 6) ["value", "least", "most"] []
  F_are_orders : Fun K "are_orders" "are_orders" s_are_orders (ad 7) (fd 7)
  g_are_orders : mg "are_orders" = some (.ref (ad 7))
  b_are_orders : Binds K (fd 7) ["value"] []
  F__law_alike : Fun K "_law_alike" "_law_alike" s__law_alike (ad 8) (fd 8)
  g__law_alike : mg "_law_alike" = some (.ref (ad 8))
  b__law_alike : Binds K (fd 8) ["found", "due"] []
  F_check_places : Fun K "check_places" "check_places" s_check_places (ad 9) (fd 9)
  g_check_places : mg "check_places" = some (.ref (ad 9))
  b_check_places : Binds K (fd 9) ["places"] []
  F_needed : Fun K "needed" "needed" s_needed (ad 10) (fd 10)
  g_needed : mg "needed" = some (.ref (ad 10))
  b_needed : Binds K (fd 10) ["orders", "runs"] []
  F_fewest_runs : Fun K "fewest_runs" "fewest_runs" s_fewest_runs (ad 11) (fd 11)
  g_fewest_runs : mg "fewest_runs" = some (.ref (ad 11))
  b_fewest_runs : Binds K (fd 11) ["orders", "places"] []
  F_told_layout : Fun K "told_layout" "told_layout" s_told_layout (ad 12) (fd 12)
  g_told_layout : mg "told_layout" = some (.ref (ad 12))
  b_told_layout : Binds K (fd 12) ["orders", "places"] []
  F_all_layouts : Fun K "all_layouts" "all_layouts" s_all_layouts (ad 13) (fd 13)
  g_all_layouts : mg "all_layouts" = some (.ref (ad 13))
  b_all_layouts : Binds K (fd 13) ["many", "places"] []
  F_second_runs : Fun K "second_runs" "second_runs" s_second_runs (ad 14) (fd 14)
  g_second_runs : mg "second_runs" = some (.ref (ad 14))
  b_second_runs : Binds K (fd 14) ["orders", "first", "runs", "second"] []
  F_least_sum : Fun K "least_sum" "least_sum" s_least_sum (ad 15) (fd 15)
  g_least_sum : mg "least_sum" = some (.ref (ad 15))
  b_least_sum : Binds K (fd 15) ["orders", "places"] []
  F__law_word : Fun K "_law_word" "_law_word" s__law_word (ad 16) (fd 16)
  g__law_word : mg "_law_word" = some (.ref (ad 16))
  b__law_word : Binds K (fd 16) ["e"] []
  F__law_told : Fun K "_law_told" "_law_told" s__law_told (ad 17) (fd 17)
  g__law_told : mg "_law_told" = some (.ref (ad 17))
  b__law_told : Binds K (fd 17) ["which", "orders", "places"] []
  F_is_layout : Fun K "is_layout" "is_layout" s_is_layout (ad 18) (fd 18)
  g_is_layout : mg "is_layout" = some (.ref (ad 18))
  b_is_layout : Binds K (fd 18) ["orders", "places", "value"] []
  F__law_given : Fun K "_law_given" "_law_given" s__law_given (ad 19) (fd 19)
  g__law_given : mg "_law_given" = some (.ref (ad 19))
  b__law_given : Binds K (fd 19) ["orders", "places"] []
  F_runs_of : Fun K "runs_of" "runs_of" s_runs_of (ad 20) (fd 20)
  g_runs_of : mg "runs_of" = some (.ref (ad 20))
  b_runs_of : Binds K (fd 20) ["orders", "layout"] []
  F_waste_of : Fun K "waste_of" "waste_of" s_waste_of (ad 21) (fd 21)
  g_waste_of : mg "waste_of" = some (.ref (ad 21))
  b_waste_of : Binds K (fd 21) ["orders", "layout"] []
  F_law : Fun K "law" "law" s_law (ad 22) (fd 22)
  g_law : mg "law" = some (.ref (ad 22))
  b_law : Binds K (fd 22) ["script"] []
  n_abs : mg "abs" = none
  n_all : mg "all" = none
  n_bool : mg "bool" = none
  n_int : mg "int" = none
  n_isinstance : mg "isinstance" = none
  n_len : mg "len" = none
  n_list : mg "list" = none
  n_max : mg "max" = none
  n_min : mg "min" = none
  n_range : mg "range" = none
  n_reversed : mg "reversed" = none
  n_sorted : mg "sorted" = none
  n_str : mg "str" = none
  n_sum : mg "sum" = none
  n_tuple : mg "tuple" = none
  n_zip : mg "zip" = none
  c_MOST_LABELS_oneplate : ∃ t, mg "MOST_LABELS_oneplate" = some (.int (5) t)
  c_MOST_LABELS_twoplates : ∃ t, mg "MOST_LABELS_twoplates" = some (.int (3) t)
  c_MOST_ORDER_oneplate : ∃ t, mg "MOST_ORDER_oneplate" = some (.int (500) t)
  c_MOST_ORDER_twoplates : ∃ t, mg "MOST_ORDER_twoplates" = some (.int (60) t)
  c_MOST_PLACES_oneplate : ∃ t, mg "MOST_PLACES_oneplate" = some (.int (12) t)
  c_MOST_PLACES_twoplates : ∃ t, mg "MOST_PLACES_twoplates" = some (.int (4) t)
  errs : Errs K ec kn km isE
  x_PrintError : mg "PrintError" = some (.ref (ec "PrintError"))
  xk_PrintError : PySem.W.keepIn K (.ref (ec "PrintError")) = true
  xe_PrintError : PySem.W.excIn K (ec "PrintError") [.type "ValueError", .type "Exception", .type "BaseException", .type "object"] "ValueError.__new__" = true
  xs_PrintError : PySem.W.subIn K (.ref (ec "PrintError")) (.type "BaseException") = some true
  xt_PrintError : PySem.W.typeIn K (.ref (ec "PrintError")) = some (.type "type")
  x_OutOfRange : mg "OutOfRange" = some (.ref (ec "OutOfRange"))
  xk_OutOfRange : PySem.W.keepIn K (.ref (ec "OutOfRange")) = true
  xe_OutOfRange : PySem.W.excIn K (ec "OutOfRange") [.type "ValueError", .type "Exception", .type "BaseException", .type "object"] "ValueError.__new__" = true
  xs_OutOfRange : PySem.W.subIn K (.ref (ec "OutOfRange")) (.type "BaseException") = some true
  xt_OutOfRange : PySem.W.typeIn K (.ref (ec "OutOfRange")) = some (.type "type")
  x_Malformed : mg "Malformed" = some (.ref (ec "Malformed"))
  xk_Malformed : PySem.W.keepIn K (.ref (ec "Malformed")) = true
  xe_Malformed : PySem.W.excIn K (ec "Malformed") [.type "ValueError", .type "Exception", .type "BaseException", .type "object"] "ValueError.__new__" = true
  xs_Malformed : PySem.W.subIn K (.ref (ec "Malformed")) (.type "BaseException") = some true
  xt_Malformed : PySem.W.typeIn K (.ref (ec "Malformed")) = some (.type "type")
  x_NotThere : mg "NotThere" = some (.ref (ec "NotThere"))
  xk_NotThere : PySem.W.keepIn K (.ref (ec "NotThere")) = true
  xe_NotThere : PySem.W.excIn K (ec "NotThere") [.type "ValueError", .type "Exception", .type "BaseException", .type "object"] "ValueError.__new__" = true
  xs_NotThere : PySem.W.subIn K (.ref (ec "NotThere")) (.type "BaseException") = some true
  xt_NotThere : PySem.W.typeIn K (.ref (ec "NotThere")) = some (.type "type")
  x_Refused : mg "Refused" = some (.ref (ec "Refused"))
  xk_Refused : PySem.W.keepIn K (.ref (ec "Refused")) = true
  xe_Refused : PySem.W.excIn K (ec "Refused") [.type "ValueError", .type "Exception", .type "BaseException", .type "object"] "ValueError.__new__" = true
  xs_Refused : PySem.W.subIn K (.ref (ec "Refused")) (.type "BaseException") = some true
  xt_Refused : PySem.W.typeIn K (.ref (ec "Refused")) = some (.type "type")
  x_TooMuch : mg "TooMuch" = some (.ref (ec "TooMuch"))
  xk_TooMuch : PySem.W.keepIn K (.ref (ec "TooMuch")) = true
  xe_TooMuch : PySem.W.excIn K (ec "TooMuch") [.type "ValueError", .type "Exception", .type "BaseException", .type "object"] "ValueError.__new__" = true
  xs_TooMuch : PySem.W.subIn K (.ref (ec "TooMuch")) (.type "BaseException") = some true
  xt_TooMuch : PySem.W.typeIn K (.ref (ec "TooMuch")) = some (.type "type")
section
variable {P : Program} {w : World} {K : PySem.W.Frag} {mg : Str → Option Value} {base : Heap} {ad : Nat → Addr} {fd : Nat → FuncData} {ec : String → Addr} {tb : Addr → Prop}
theorem ok__law_draws (T : Txt K mg ad fd ec tb)  : FnOk P w K mg base (L2N.CX P w) 1 (ad 0) (fd 0) ["script"] (spD ⟨K, true, tb⟩ ec [false] fn__law_draws) := by
  exact fnF T.F__law_draws sc__law_draws rfl (by decide) fun cdv A outer s H E H0 F0 io hx hn hr tk hp => show PSsD _ _ _ _ bd__law_draws from
    s_cons (s_set (i := 1) sc__law_draws.nd rfl (.inl rfl) (d_lst (a_nil)))
    (s_cons (s_for hp rfl (i_seq rfl (d_var (pv 0))) (g_name (i := 2) sc__law_draws.nd rfl (.inl rfl)) (s_cons (s_set (i := 5) sc__law_draws.nd rfl (.inl rfl) (d_blt call_abs D_abs (by rfl) T.n_abs (by decide +kernel) (a_cons (d_var (pv 2)) (a_nil))))
    (s_cons (s_if (d_cmpT o_lt D_lt (d_var (pv 5)) (d_op op_pow D_pow (d_int) (d_int)) (nomark _)) (s_cons (s_set (i := 6) sc__law_draws.nd rfl (.inl rfl) (d_op o_mod D_mod (d_bltT call_int1 D_int (by rfl) T.n_int PyProof.Rows.boot_int (a_cons (d_op o_add D_add (d_op o_mul D_mul (d_var (pv 5)) (d_int)) (d_int)) (a_nil))) (d_int)))
    (s_cons (s_drop (d_met PySem.F.plainAttrs_list PySem.F.slot_list_append PySem.F.type_list_append mt_append M_append (pv 1) (a_cons (d_op o_mod D_mod (d_bltT call_int1 D_int (by rfl) T.n_int PyProof.Rows.boot_int (a_cons (d_op o_add D_add (d_op o_mul D_mul (d_var (pv 6)) (d_int)) (d_var (pv 5))) (a_nil))) (d_int)) (a_nil))))
    (s_cons (s_drop (d_met PySem.F.plainAttrs_list PySem.F.slot_list_append PySem.F.type_list_append mt_append M_append (pv 1) (a_cons (d_op o_mod D_mod (d_bltT call_int1 D_int (by rfl) T.n_int PyProof.Rows.boot_int (a_cons (d_op o_add D_add (d_var (pv 6)) (d_op o_div D_div (d_var (pv 5)) (d_int))) (a_nil))) (d_int)) (a_nil))))
    (s_one (s_set (i := 5) sc__law_draws.nd rfl (.inl rfl) (d_int)))))) (s_nil))
    (s_one (s_for hp rfl (i_range1 (by rfl) T.n_range (a_cons (d_int) (a_nil))) (g_name (i := 4) sc__law_draws.nd rfl (.inl rfl)) (s_one (s_if (d_cmpT o_gt D_gt (d_var (pv 5)) (d_int) (nomark _)) (s_cons (s_drop (d_met PySem.F.plainAttrs_list PySem.F.slot_list_append PySem.F.type_list_append mt_append M_append (pv 1) (a_cons (d_op o_mod D_mod (d_bltT call_int1 D_int (by rfl) T.n_int PyProof.Rows.boot_int (a_cons (d_var (pv 5)) (a_nil))) (d_int)) (a_nil))))
    (s_one (s_set (i := 5) sc__law_draws.nd rfl (.inl rfl) (d_op o_div D_div (d_var (pv 5)) (d_int))))) (s_nil))))))))
    (s_cons (s_set (i := 3) sc__law_draws.nd rfl (.inl rfl) (d_int))
    (s_cons (s_if (d_cmpT o_gt D_gt (d_blt c_len D_len (by rfl) T.n_len PySem.boot_len (a_cons (d_var (pv 0)) (a_nil))) (d_int) (nomark _)) (s_one (s_set (i := 3) sc__law_draws.nd rfl (.inl rfl) (d_op o_add D_add (d_int) (d_blt call_abs D_abs (by rfl) T.n_abs (by decide +kernel) (a_cons (d_ix rfl (fun z => nomatch z) hr.units (d_var (pv 0)) (d_int) (fun _ _ => rfl)) (a_nil)))))) (s_nil))
    (s_cons (s_for hp rfl (i_range1 (by rfl) T.n_range (a_cons (d_int) (a_nil))) (g_name (i := 4) sc__law_draws.nd rfl (.inl rfl)) (s_cons (s_set (i := 3) sc__law_draws.nd rfl (.inl rfl) (d_op o_mod D_mod (d_bltT call_int1 D_int (by rfl) T.n_int PyProof.Rows.boot_int (a_cons (d_op o_add D_add (d_op o_mul D_mul (d_var (pv 3)) (d_int)) (d_int)) (a_nil))) (d_int)))
    (s_one (s_drop (d_met PySem.F.plainAttrs_list PySem.F.slot_list_append PySem.F.type_list_append mt_append M_append (pv 1) (a_cons (d_op o_div D_div (d_var (pv 3)) (d_int)) (a_nil)))))))
    (s_one (s_ret (d_listRev rfl (by rfl) T.n_list (by rfl) T.n_reversed (d_var (pv 1)))))))))
theorem ok__law_layouts (T : Txt K mg ad fd ec tb)  : FnOk P w K mg base (L2N.CX P w) 1 (ad 1) (fd 1) ["many", "places"] (spD ⟨K, true, tb⟩ ec [false, false] fn__law_layouts) := by
  exact fnF T.F__law_layouts sc__law_layouts rfl (by decide) fun cdv A outer s H E H0 F0 io hx hn hr tk hp => show PSsD _ _ _ _ bd__law_layouts from
    s_cons (s_set (i := 2) sc__law_layouts.nd rfl (.inl rfl) (d_lst (a_cons (d_tup (a_nil)) (a_nil))))
    (s_cons (s_for hp rfl (i_range1 (by rfl) T.n_range (a_cons (d_var (pv 0)) (a_nil))) (g_name (i := 3) sc__law_layouts.nd rfl (.inl rfl)) (s_cons (s_set (i := 4) sc__law_layouts.nd rfl (.inl rfl) (d_lst (a_nil)))
    (s_cons (s_for hp rfl (i_seq rfl (d_var (pv 2))) (g_name (i := 5) sc__law_layouts.nd rfl (.inr rfl)) (s_one (s_set (i := 4) sc__law_layouts.nd rfl (.inl rfl) (d_op o_add D_add (d_var (pv 4)) (d_lc (own := [("one", 6)]) rfl sc__law_layouts.nd (i_range1 (by rfl) T.n_range (a_cons (d_op o_add D_add (d_op op_sub D_sub (d_var (pv 1)) (d_blt (c_sum rfl) D_sum (by rfl) T.n_sum PyProof.Rows.boot_sum (a_cons (d_var (pv 5)) (a_nil)))) (d_int)) (a_nil))) (blkOk_by (own := [("one", 6)]) (N := N__law_layouts) (sc := (defScope s__law_layouts)) (by decide +kernel)) (by decide) (fun _ _ _ _ _ _ _ => g_name (i := 6) sc__law_layouts.nd rfl (.inl rfl)) (fun _ _ _ _ _ _ _ => ts_nil) (fun _ _ _ _ _ _ _ => d_op o_add D_add (d_var (pv 5)) (d_tup (a_cons (d_var (pv 6)) (a_nil)))))))))
    (s_one (s_set (i := 2) sc__law_layouts.nd rfl (.inl rfl) (d_var (pv 4)))))))
    (s_one (s_ret (d_var (pv 2)))))
theorem ok__law_two (T : Txt K mg ad fd ec tb) (G__law_layouts : FnOk P w K mg base (L2N.CX P w) 1 (ad 1) (fd 1) ["many", "places"] (spD ⟨K, true, tb⟩ ec [false, false] fn__law_layouts)) : FnOk P w K mg base (L2N.CX P w) 2 (ad 2) (fd 2) ["orders", "places"] (spD ⟨K, true, tb⟩ ec [false, false] fn__law_two) := by
  exact fnF T.F__law_two sc__law_two rfl (by decide) fun cdv A outer s H E H0 F0 io hx hn hr tk hp => show PSsD _ _ _ _ bd__law_two from
    s_cons (s_set (i := 2) sc__law_two.nd rfl (.inl rfl) (d_non))
    (s_cons (s_set (i := 3) sc__law_two.nd rfl (.inl rfl) (d_call (n := 2) (G__law_layouts.mono (by decide)) hr (by rfl) T.g__law_layouts T.F__law_layouts.kp T.b__law_layouts tk (a_cons (d_blt c_len D_len (by rfl) T.n_len PySem.boot_len (a_cons (d_var (pv 0)) (a_nil))) (a_cons (d_var (pv 1)) (a_nil)))))
    (s_cons (s_for hp rfl (i_seq rfl (d_var (pv 3))) (g_name (i := 4) sc__law_two.nd rfl (.inr rfl)) (s_one (s_for hp rfl (i_seq rfl (d_var (pv 3))) (g_name (i := 5) sc__law_two.nd rfl (.inr rfl)) (s_one (s_for hp rfl (i_range1 (by rfl) T.n_range (a_cons (d_op o_add D_add (d_blt (c_max rfl hr.units) D_max (by rfl) T.n_max PyProof.Rows.boot_max (a_cons (d_var (pv 0)) (a_nil))) (d_int)) (a_nil))) (g_name (i := 6) sc__law_two.nd rfl (.inr rfl)) (s_cons (s_set (i := 7) sc__law_two.nd rfl (.inr rfl) (d_lc (own := [("k", 9)]) rfl sc__law_two.nd (i_range1 (by rfl) T.n_range (a_cons (d_blt c_len D_len (by rfl) T.n_len PySem.boot_len (a_cons (d_var (pv 0)) (a_nil))) (a_nil))) (blkOk_by (own := [("k", 9)]) (N := N__law_two) (sc := (defScope s__law_two)) (by decide +kernel)) (by decide) (fun _ _ _ _ _ _ _ => g_name (i := 9) sc__law_two.nd rfl (.inl rfl)) (fun _ _ _ _ _ _ _ => ts_nil) (fun _ _ _ _ _ _ _ => d_blt (c_max rfl hr.units) D_max (by rfl) T.n_max PyProof.Rows.boot_max (a_cons (d_int) (a_cons (d_op op_sub D_sub (d_ix rfl (fun z => nomatch z) hr.units (d_var (pv 0)) (d_var (pv 9)) (fun _ _ => rfl)) (d_op o_mul D_mul (d_var (pv 6)) (d_ix rfl (fun z => nomatch z) hr.units (d_var (pv 4)) (d_var (pv 9)) (fun _ _ => rfl)))) (a_nil))))))
    (s_one (s_if (d_cmpT (op_eqP hr.units) D_eq (d_lc (own := [("k", 9)]) rfl sc__law_two.nd (i_range1 (by rfl) T.n_range (a_cons (d_blt c_len D_len (by rfl) T.n_len PySem.boot_len (a_cons (d_var (pv 7)) (a_nil))) (a_nil))) (blkOk_by (own := [("k", 9)]) (N := N__law_two) (sc := (defScope s__law_two)) (by decide +kernel)) (by decide) (fun _ _ _ _ _ _ _ => g_name (i := 9) sc__law_two.nd rfl (.inl rfl)) (fun _ _ _ _ _ _ _ => ts_one (PW.pt (w_and (d_cmpT o_gt D_gt (d_ix rfl (fun z => nomatch z) hr.units (d_var (pv 7)) (d_var (pv 9)) (fun _ _ => rfl)) (d_int) (nomark _)) (w_and1 (d_cmpT (op_eqP hr.units) D_eq (d_ix rfl (fun z => nomatch z) hr.units (d_var (pv 5)) (d_var (pv 9)) (fun _ _ => rfl)) (d_int) (nomark _)))))) (fun _ _ _ _ _ _ _ => d_var (pv 9))) (d_lst (a_nil)) (nomark _)) (s_cons (s_set (i := 8) sc__law_two.nd rfl (.inl rfl) (d_blt (c_max rfl hr.units) D_max (by rfl) T.n_max PyProof.Rows.boot_max (a_cons (d_op o_add D_add (d_lst (a_cons (d_int) (a_nil))) (d_lc (own := [("k", 9)]) rfl sc__law_two.nd (i_range1 (by rfl) T.n_range (a_cons (d_blt c_len D_len (by rfl) T.n_len PySem.boot_len (a_cons (d_var (pv 7)) (a_nil))) (a_nil))) (blkOk_by (own := [("k", 9)]) (N := N__law_two) (sc := (defScope s__law_two)) (by decide +kernel)) (by decide) (fun _ _ _ _ _ _ _ => g_name (i := 9) sc__law_two.nd rfl (.inl rfl)) (fun _ _ _ _ _ _ _ => ts_one (d_cmpT o_gt D_gt (d_ix rfl (fun z => nomatch z) hr.units (d_var (pv 7)) (d_var (pv 9)) (fun _ _ => rfl)) (d_int) (nomark _))) (fun _ _ _ _ _ _ _ => d_op o_div D_div (d_op op_sub D_sub (d_op o_add D_add (d_ix rfl (fun z => nomatch z) hr.units (d_var (pv 7)) (d_var (pv 9)) (fun _ _ => rfl)) (d_ix rfl (fun z => nomatch z) hr.units (d_var (pv 5)) (d_var (pv 9)) (fun _ _ => rfl))) (d_int)) (d_ix rfl (fun z => nomatch z) hr.units (d_var (pv 5)) (d_var (pv 9)) (fun _ _ => rfl))))) (a_nil))))
    (s_one (s_set (i := 2) sc__law_two.nd rfl (.inl rfl) (d_if (d_cmpT o_is D_is (d_var (pv 2)) (d_non) (nomark _)) (d_op o_add D_add (d_var (pv 6)) (d_var (pv 8))) (d_blt (c_min rfl hr.units) D_min (by rfl) T.n_min PyProof.Rows.boot_min (a_cons (d_var (pv 2)) (a_cons (d_op o_add D_add (d_var (pv 6)) (d_var (pv 8))) (a_nil)))))))) (s_nil)))))))))
    (s_one (s_ret (d_var (pv 2))))))
theorem ok__law_take (T : Txt K mg ad fd ec tb)  : FnOk P w K mg base (L2N.CX P w) 1 (ad 3) (fd 3) ["draws", "bound"] (spD ⟨K, true, tb⟩ ec [true, false] fn__law_take) := by
  exact fnF T.F__law_take sc__law_take rfl (by decide) fun cdv A outer s H E H0 F0 io hx hn hr tk hp => show PSsD _ _ _ _ bd__law_take from
    s_cons (s_if (d_cmpT (op_eqP hr.units) D_eq (d_blt c_len D_len (by rfl) T.n_len PySem.boot_len (a_cons (d_var (pv 0)) (a_nil))) (d_int) (nomark _)) (s_one (s_ret (d_int))) (s_nil))
    (s_one (s_ret (d_op o_mod D_mod (d_bltT call_int1 D_int (by rfl) T.n_int PyProof.Rows.boot_int (a_cons (d_met0 PySem.F.plainAttrs_list PySem.F.slot_list_pop PySem.F.type_list_pop mt_pop M_pop (pv 0)) (a_nil))) (d_var (pv 1)))))
theorem ok__law_says (T : Txt K mg ad fd ec tb)  : FnOk P w K mg base (L2N.CX P w) 1 (ad 4) (fd 4) ["told", "due"] (spD ⟨K, true, tb⟩ ec [false, false] fn__law_says) := by
  exact fnF T.F__law_says sc__law_says rfl (by decide) fun cdv A outer s H E H0 F0 io hx hn hr tk hp => show PSsD _ _ _ _ bd__law_says from
    s_one (s_ret (d_and (d_isi (T := "bool") rfl (by decide) (by rfl) T.n_isinstance (by rfl) T.n_bool PyProof.Rows.boot_bool (d_var (pv 0))) (d_one (d_cmp (op_eqP hr.units) D_eq (d_var (pv 0)) (d_var (pv 1)) (nomark _)))))
theorem ok__law_runs (T : Txt K mg ad fd ec tb)  : FnOk P w K mg base (L2N.CX P w) 1 (ad 5) (fd 5) ["orders", "layout"] (spD ⟨K, true, tb⟩ ec [false, false] fn__law_runs) := by
  exact fnF T.F__law_runs sc__law_runs rfl (by decide) fun cdv A outer s H E H0 F0 io hx hn hr tk hp => show PSsD _ _ _ _ bd__law_runs from
    s_cons (s_if (d_cmpT (o_in hr.units) (D_in (fun z => nomatch z)) (d_int) (d_var (pv 1)) (by rfl)) (s_one (s_ret (d_non))) (s_nil))
    (s_one (s_ret (d_blt (c_max rfl hr.units) D_max (by rfl) T.n_max PyProof.Rows.boot_max (a_cons (d_lc (own := [("k", 2)]) rfl sc__law_runs.nd (i_range1 (by rfl) T.n_range (a_cons (d_blt c_len D_len (by rfl) T.n_len PySem.boot_len (a_cons (d_var (pv 0)) (a_nil))) (a_nil))) (blkOk_by (own := [("k", 2)]) (N := N__law_runs) (sc := (defScope s__law_runs)) (by decide +kernel)) (by decide) (fun _ _ _ _ _ _ _ => g_name (i := 2) sc__law_runs.nd rfl (.inl rfl)) (fun _ _ _ _ _ _ _ => ts_nil) (fun _ _ _ _ _ _ _ => d_op o_add D_add (d_op o_div D_div (d_ix rfl (fun z => nomatch z) hr.units (d_var (pv 0)) (d_var (pv 2)) (fun _ _ => rfl)) (d_ix rfl (fun z => nomatch z) hr.units (d_var (pv 1)) (d_var (pv 2)) (fun _ _ => rfl))) (d_bltT call_int1 D_int (by rfl) T.n_int PyProof.Rows.boot_int (a_cons (d_cmp o_lt D_lt (d_op o_mul D_mul (d_op o_div D_div (d_ix rfl (fun z => nomatch z) hr.units (d_var (pv 0)) (d_var (pv 2)) (fun _ _ => rfl)) (d_ix rfl (fun z => nomatch z) hr.units (d_var (pv 1)) (d_var (pv 2)) (fun _ _ => rfl))) (d_ix rfl (fun z => nomatch z) hr.units (d_var (pv 1)) (d_var (pv 2)) (fun _ _ => rfl))) (d_ix rfl (fun z => nomatch z) hr.units (d_var (pv 0)) (d_var (pv 2)) (fun _ _ => rfl)) (nomark _)) (a_nil))))) (a_nil)))))
theorem ok_is_number (T : Txt K mg ad fd ec tb)  : FnOk P w K mg base (L2N.CX P w) 1 (ad 6) (fd 6) ["value", "least", "most"] (spD ⟨K, true, tb⟩ ec [false, false, false] fn_is_number) := by
  exact fnF T.F_is_number sc_is_number rfl (by decide) fun cdv A outer s H E H0 F0 io hx hn hr tk hp => show PSsD _ _ _ _ bd_is_number from
    s_one (s_ret (d_and (d_isi (T := "int") rfl (by decide) (by rfl) T.n_isinstance (by rfl) T.n_int PyProof.Rows.boot_int (d_var (pv 0))) (d_and (d_not (d_isi (T := "bool") rfl (by decide) (by rfl) T.n_isinstance (by rfl) T.n_bool PyProof.Rows.boot_bool (d_var (pv 0)))) (d_one (d_chain o_le o_le D_le D_le (d_var (pv 1)) (d_var (pv 0)) (d_var (pv 2)) (by rfl))))))
theorem ok_are_orders (T : Txt K mg ad fd ec tb) {cc PP : Addr} (FC : FunC K "are_orders" "are_orders" s_are_orders (ad 7) (fd 7) cc) (TB : GxR.TabB base mg cc PP) (hPtb : tb PP) (G_is_number : FnOk P w K mg base (L2N.CX P w) 1 (ad 6) (fd 6) ["value", "least", "most"] (spD ⟨K, true, tb⟩ ec [false, false, false] fn_is_number)) : FnOk P w K mg base (L2N.CX P w) 5 (ad 7) (fd 7) ["value"] (spD ⟨K, true, tb⟩ ec [false] fn_are_orders) := by
  obtain ⟨t_MOST_LABELS_oneplate, c_MOST_LABELS_oneplate⟩ := T.c_MOST_LABELS_oneplate
  obtain ⟨t_MOST_ORDER_oneplate, c_MOST_ORDER_oneplate⟩ := T.c_MOST_ORDER_oneplate
  exact fnFG FC sc_are_orders rfl (by decide) fun A outer s H E H0 F0 io hx hn hr tk hp => show PSsD _ _ _ _ bd_are_orders from
    s_cons (s_if (PW.pt (w_or (t_not (d_val (d_isi (T := "tuple") rfl (by decide) (by rfl) T.n_isinstance (by rfl) T.n_tuple PyProof.Rows.boot_tuple (d_var (pv 0))))) (w_or1 (t_not (t_chain o_le o_le D_le D_le (d_int) (d_blt c_len D_len (by rfl) T.n_len PySem.boot_len (a_cons (d_var (pv 0)) (a_nil))) (d_glob (v := .int (5)) (by rfl) c_MOST_LABELS_oneplate ⟨_, rfl⟩ (fun _ => .int _)) (by rfl)))))) (s_one (s_ret (d_bl))) (s_nil))
    (s_one (s_ret (d_allG (k := 1) (own := [("one", 1)]) (hr.mono (by decide)) (by rfl) T.n_all PyProof.Rows.boot_all TB hPtb rfl sc_are_orders.nd (blkOk_by (own := [("one", 1)]) (N := N_are_orders) (sc := (defScope s_are_orders)) (by decide +kernel)) (by decide +kernel) (by decide +kernel) (by decide +kernel) (i_seq rfl (d_var (pv 0))) (by decide) (fun _ _ _ _ _ _ _ _ => g_name (i := 1) sc_are_orders.nd rfl (.inl rfl)) (fun _ _ _ _ _ _ _ hrg => d_call (n := 3) (G_is_number.mono (by decide)) hrg (by rfl) T.g_is_number T.F_is_number.kp T.b_is_number takesNo (a_cons (d_var (pv 1)) (a_cons (d_int) (a_cons (d_glob (v := .int (500)) (by rfl) c_MOST_ORDER_oneplate ⟨_, rfl⟩ (fun _ => .int _)) (a_nil))))))))
theorem ok0__law_alike (T : Txt K mg ad fd ec tb)  : ∀ n : Nat, FnOk P w K mg base (L2N.CX P w) (0 + n) (ad 8) (fd 8) ["found", "due"] (spD ⟨K, true, tb⟩ ec [false, false] (fr__law_alike n))
  | 0 => ⟨fun vs H Q E ⟨F, ds, qs, e, _, h, _⟩ => h.len, fun A outer s H args us vs Q E hr he hb hv ⟨F, ds, qs, e, _, h, z⟩ => z.elim⟩
  | n + 1 => by
    have Grec := ok0__law_alike T  n
    exact fnF T.F__law_alike sc__law_alike rfl (by decide) fun cdv A outer s H E H0 F0 io hx hn hr tk hp => by
      have hrr := hr
      have hr : Room 0 _ := hr.mono (Nat.le_add_right _ _)
      exact (show PSsD _ _ _ _ (bd__law_alike (fr__law_alike n)) from
    s_cons (s_if (PW.pt (w_or (d_val (d_isi (T := "list") rfl (by decide) (by rfl) T.n_isinstance (by rfl) T.n_list PyProof.Rows.boot_list (d_var (pv 1)))) (w_or1 (d_val (d_isi (T := "tuple") rfl (by decide) (by rfl) T.n_isinstance (by rfl) T.n_tuple PyProof.Rows.boot_tuple (d_var (pv 1))))))) (s_cons (s_if (PW.pt (w_or (d_cmpT (op_neP hr.units) D_ne (d_isi (T := "list") rfl (by decide) (by rfl) T.n_isinstance (by rfl) T.n_list PyProof.Rows.boot_list (d_var (pv 0))) (d_isi (T := "list") rfl (by decide) (by rfl) T.n_isinstance (by rfl) T.n_list PyProof.Rows.boot_list (d_var (pv 1))) (nomark _)) (w_or1 (d_cmpT (op_neP hr.units) D_ne (d_isi (T := "tuple") rfl (by decide) (by rfl) T.n_isinstance (by rfl) T.n_tuple PyProof.Rows.boot_tuple (d_var (pv 0))) (d_isi (T := "tuple") rfl (by decide) (by rfl) T.n_isinstance (by rfl) T.n_tuple PyProof.Rows.boot_tuple (d_var (pv 1))) (nomark _))))) (s_one (s_ret (d_bl))) (s_nil))
    (s_one (s_ret (d_and (d_cmp (op_eqP hr.units) D_eq (d_blt c_len D_len (by rfl) T.n_len PySem.boot_len (a_cons (d_var (pv 0)) (a_nil))) (d_blt c_len D_len (by rfl) T.n_len PySem.boot_len (a_cons (d_var (pv 1)) (a_nil))) (nomark _)) (d_one (d_cmp (op_eqP hr.units) D_eq (d_lc (own := [("k", 2)]) rfl sc__law_alike.nd (i_range1 (by rfl) T.n_range (a_cons (d_blt c_len D_len (by rfl) T.n_len PySem.boot_len (a_cons (d_var (pv 1)) (a_nil))) (a_nil))) (blkOk_by (own := [("k", 2)]) (N := N__law_alike) (sc := (defScope s__law_alike)) (by decide +kernel)) (by decide) (fun _ _ _ _ _ _ _ => g_name (i := 2) sc__law_alike.nd rfl (.inl rfl)) (fun _ _ _ _ _ _ _ => ts_one (t_not (d_val (d_call Grec hrr (by rfl) T.g__law_alike T.F__law_alike.kp T.b__law_alike takesNo (a_cons (d_ix rfl (fun z => nomatch z) hr.units (d_var (pv 0)) (d_var (pv 2)) (fun _ _ => rfl)) (a_cons (d_ix rfl (fun z => nomatch z) hr.units (d_var (pv 1)) (d_var (pv 2)) (fun _ _ => rfl)) (a_nil))))))) (fun _ _ _ _ _ _ _ => d_var (pv 2))) (d_lst (a_nil)) (nomark _))))))) (s_nil))
    (s_cons (s_if (d_cmpT o_is D_is (d_var (pv 1)) (d_non) (nomark _)) (s_one (s_ret (d_cmp o_is D_is (d_var (pv 0)) (d_non) (nomark _)))) (s_nil))
    (s_cons (s_if (PW.pt (w_or (d_val (d_isi (T := "bool") rfl (by decide) (by rfl) T.n_isinstance (by rfl) T.n_bool PyProof.Rows.boot_bool (d_var (pv 1)))) (w_or1 (d_val (d_isi (T := "bool") rfl (by decide) (by rfl) T.n_isinstance (by rfl) T.n_bool PyProof.Rows.boot_bool (d_var (pv 0))))))) (s_one (s_ret (d_and (d_isi (T := "bool") rfl (by decide) (by rfl) T.n_isinstance (by rfl) T.n_bool PyProof.Rows.boot_bool (d_var (pv 0))) (d_and (d_isi (T := "bool") rfl (by decide) (by rfl) T.n_isinstance (by rfl) T.n_bool PyProof.Rows.boot_bool (d_var (pv 1))) (d_one (d_cmp (op_eqP hr.units) D_eq (d_var (pv 0)) (d_var (pv 1)) (nomark _))))))) (s_nil))
    (s_cons (s_if (d_val (d_isi (T := "int") rfl (by decide) (by rfl) T.n_isinstance (by rfl) T.n_int PyProof.Rows.boot_int (d_var (pv 1)))) (s_one (s_ret (d_and (d_isi (T := "int") rfl (by decide) (by rfl) T.n_isinstance (by rfl) T.n_int PyProof.Rows.boot_int (d_var (pv 0))) (d_one (d_cmp (op_eqP hr.units) D_eq (d_var (pv 0)) (d_var (pv 1)) (nomark _)))))) (s_nil))
    (s_one (s_ret (d_and (d_isi (T := "str") rfl (by decide) (by rfl) T.n_isinstance (by rfl) T.n_str PyProof.Rows.boot_str (d_var (pv 0))) (d_one (d_cmp (op_eqP hr.units) D_eq (d_var (pv 0)) (d_var (pv 1)) (nomark _))))))))))
theorem ok__law_alike (T : Txt K mg ad fd ec tb)  : FnOk P w K mg base (L2N.CX P w) 9 (ad 8) (fd 8) ["found", "due"] (spD ⟨K, true, tb⟩ ec [false, false] fn__law_alike) := (ok0__law_alike T  8).mono (by decide)
theorem ok_check_places (T : Txt K mg ad fd ec tb) (G_is_number : FnOk P w K mg base (L2N.CX P w) 1 (ad 6) (fd 6) ["value", "least", "most"] (spD ⟨K, true, tb⟩ ec [false, false, false] fn_is_number)) : FnOk P w K mg base (L2N.CX P w) 2 (ad 9) (fd 9) ["places"] (spD ⟨K, true, tb⟩ ec [false] fn_check_places) := by
  obtain ⟨t_MOST_PLACES_oneplate, c_MOST_PLACES_oneplate⟩ := T.c_MOST_PLACES_oneplate
  exact fnF T.F_check_places sc_check_places rfl (by decide) fun cdv A outer s H E H0 F0 io hx hn hr tk hp => show PSsD _ _ _ _ bd_check_places from
    s_one (s_if (t_not (d_val (d_call (n := 3) (G_is_number.mono (by decide)) hr (by rfl) T.g_is_number T.F_is_number.kp T.b_is_number tk (a_cons (d_var (pv 0)) (a_cons (d_int) (a_cons (d_glob (v := .int (12)) (by rfl) c_MOST_PLACES_oneplate ⟨_, rfl⟩ (fun _ => .int _)) (a_nil))))))) (s_one (s_raise (n := "OutOfRange") rfl rfl tk PySem.F.excBase_ValueError T.xe_OutOfRange T.x_OutOfRange T.xk_OutOfRange (raises_own T.xs_OutOfRange T.xt_OutOfRange) (by rfl))) (s_nil))
theorem ok_needed (T : Txt K mg ad fd ec tb)  : FnOk P w K mg base (L2N.CX P w) 1 (ad 10) (fd 10) ["orders", "runs"] (spD ⟨K, true, tb⟩ ec [false, false] fn_needed) := by
  exact fnF T.F_needed sc_needed rfl (by decide) fun cdv A outer s H E H0 F0 io hx hn hr tk hp => show PSsD _ _ _ _ bd_needed from
    s_one (s_ret (d_bltT call_tuple_of D_tuple (by rfl) T.n_tuple PyProof.Rows.boot_tuple (a_cons (d_lc (own := [("order", 2)]) rfl sc_needed.nd (i_seq rfl (d_var (pv 0))) (blkOk_by (own := [("order", 2)]) (N := N_needed) (sc := (defScope s_needed)) (by decide +kernel)) (by decide) (fun _ _ _ _ _ _ _ => g_name (i := 2) sc_needed.nd rfl (.inl rfl)) (fun _ _ _ _ _ _ _ => ts_nil) (fun _ _ _ _ _ _ _ => d_op o_div D_div (d_op op_sub D_sub (d_op o_add D_add (d_var (pv 2)) (d_var (pv 1))) (d_int)) (d_var (pv 1)))) (a_nil))))
theorem ok_fewest_runs (T : Txt K mg ad fd ec tb) (G_check_places : FnOk P w K mg base (L2N.CX P w) 2 (ad 9) (fd 9) ["places"] (spD ⟨K, true, tb⟩ ec [false] fn_check_places)) (G_needed : FnOk P w K mg base (L2N.CX P w) 1 (ad 10) (fd 10) ["orders", "runs"] (spD ⟨K, true, tb⟩ ec [false, false] fn_needed)) : FnOk P w K mg base (L2N.CX P w) 3 (ad 11) (fd 11) ["orders", "places"] (spD ⟨K, true, tb⟩ ec [false, false] fn_fewest_runs) := by
  exact fnF T.F_fewest_runs sc_fewest_runs rfl (by decide) fun cdv A outer s H E H0 F0 io hx hn hr tk hp => show PSsD _ _ _ _ bd_fewest_runs from
    s_cons (s_drop (d_call (n := 1) (G_check_places.mono (by decide)) hr (by rfl) T.g_check_places T.F_check_places.kp T.b_check_places tk (a_cons (d_var (pv 1)) (a_nil))))
    (s_cons (s_if (d_cmpT o_lt D_lt (d_var (pv 1)) (d_blt c_len D_len (by rfl) T.n_len PySem.boot_len (a_cons (d_var (pv 0)) (a_nil))) (nomark _)) (s_one (s_ret (d_non))) (s_nil))
    (s_cons (s_set (i := 2) sc_fewest_runs.nd rfl (.inl rfl) (d_int))
    (s_cons (s_while hp (d_cmpT o_gt D_gt (d_blt (c_sum rfl) D_sum (by rfl) T.n_sum PyProof.Rows.boot_sum (a_cons (d_call (n := 2) (G_needed.mono (by decide)) hr (by rfl) T.g_needed T.F_needed.kp T.b_needed tk (a_cons (d_var (pv 0)) (a_cons (d_var (pv 2)) (a_nil)))) (a_nil))) (d_var (pv 1)) (nomark _)) (s_one (s_aug (i := 2) iop_add D_addI sc_fewest_runs.nd rfl (.inl rfl) (d_int))))
    (s_one (s_ret (d_var (pv 2)))))))
theorem ok_told_layout (T : Txt K mg ad fd ec tb) (G_fewest_runs : FnOk P w K mg base (L2N.CX P w) 3 (ad 11) (fd 11) ["orders", "places"] (spD ⟨K, true, tb⟩ ec [false, false] fn_fewest_runs)) (G_needed : FnOk P w K mg base (L2N.CX P w) 1 (ad 10) (fd 10) ["orders", "runs"] (spD ⟨K, true, tb⟩ ec [false, false] fn_needed)) : FnOk P w K mg base (L2N.CX P w) 4 (ad 12) (fd 12) ["orders", "places"] (spD ⟨K, true, tb⟩ ec [false, false] fn_told_layout) := by
  exact fnF T.F_told_layout sc_told_layout rfl (by decide) fun cdv A outer s H E H0 F0 io hx hn hr tk hp => show PSsD _ _ _ _ bd_told_layout from
    s_cons (s_set (i := 2) sc_told_layout.nd rfl (.inl rfl) (d_call (n := 2) (G_fewest_runs.mono (by decide)) hr (by rfl) T.g_fewest_runs T.F_fewest_runs.kp T.b_fewest_runs tk (a_cons (d_var (pv 0)) (a_cons (d_var (pv 1)) (a_nil)))))
    (s_one (s_ret (d_if (d_cmpT o_is D_is (d_var (pv 2)) (d_non) (nomark _)) (d_non) (d_call (n := 2) (G_needed.mono (by decide)) hr (by rfl) T.g_needed T.F_needed.kp T.b_needed tk (a_cons (d_var (pv 0)) (a_cons (d_var (pv 2)) (a_nil)))))))
theorem ok_all_layouts (T : Txt K mg ad fd ec tb)  : FnOk P w K mg base (L2N.CX P w) 1 (ad 13) (fd 13) ["many", "places"] (spD ⟨K, true, tb⟩ ec [false, false] fn_all_layouts) := by
  exact fnF T.F_all_layouts sc_all_layouts rfl (by decide) fun cdv A outer s H E H0 F0 io hx hn hr tk hp => show PSsD _ _ _ _ bd_all_layouts from
    s_cons (s_set (i := 2) sc_all_layouts.nd rfl (.inl rfl) (d_lst (a_cons (d_tup (a_nil)) (a_nil))))
    (s_cons (s_for hp rfl (i_range1 (by rfl) T.n_range (a_cons (d_var (pv 0)) (a_nil))) (g_name (i := 3) sc_all_layouts.nd rfl (.inl rfl)) (s_one (s_setLc2 (k := 2) (own := [("row", 4), ("one", 5)]) (vs1 := [5]) rfl sc_all_layouts.nd rfl rfl (sw_true rfl rfl rfl rfl) (i_seq rfl (d_var (pv 2))) (blkOk_by (own := [("row", 4), ("one", 5)]) (N := N_all_layouts) (sc := (defScope s_all_layouts)) (by decide +kernel)) (by decide) (by decide) (by decide) (fun _ _ _ _ _ _ _ => g_name (i := 4) sc_all_layouts.nd rfl (.inl rfl)) (fun _ _ _ _ _ _ _ => ts_nil) (fun _ _ _ _ _ _ _ => i_range1 (by rfl) T.n_range (a_cons (d_op o_add D_add (d_op op_sub D_sub (d_var (pv 1)) (d_blt (c_sum rfl) D_sum (by rfl) T.n_sum PyProof.Rows.boot_sum (a_cons (d_var (pv 4)) (a_nil)))) (d_int)) (a_nil))) (fun _ _ _ _ _ _ _ => g_name (i := 5) sc_all_layouts.nd rfl (.inl rfl)) (fun _ _ _ _ _ _ _ => ts_nil) (fun _ _ _ _ _ _ _ => d_tup (a_star rfl (d_var (pv 4)) (a_cons (d_var (pv 5)) (a_nil)))))))
    (s_one (s_ret (d_var (pv 2)))))
theorem ok_second_runs (T : Txt K mg ad fd ec tb)  : FnOk P w K mg base (L2N.CX P w) 1 (ad 14) (fd 14) ["orders", "first", "runs", "second"] (spD ⟨K, true, tb⟩ ec [false, false, false, false] fn_second_runs) := by
  exact fnF T.F_second_runs sc_second_runs rfl (by decide) fun cdv A outer s H E H0 F0 io hx hn hr tk hp => show PSsD _ _ _ _ bd_second_runs from
    s_cons (s_set (i := 4) sc_second_runs.nd rfl (.inl rfl) (d_int))
    (s_cons (s_for hp rfl (i_zip3 rfl (by rfl) T.n_zip (a_cons (d_var (pv 0)) (a_cons (d_var (pv 1)) (a_cons (d_var (pv 3)) (a_nil))))) (g_tup rfl rfl (g_cons (g_name (i := 5) sc_second_runs.nd rfl (.inl rfl)) (g_cons (g_name (i := 6) sc_second_runs.nd rfl (.inl rfl)) (g_cons (g_name (i := 7) sc_second_runs.nd rfl (.inl rfl)) (g_nil)))) rfl) (s_cons (s_set (i := 8) sc_second_runs.nd rfl (.inl rfl) (d_blt (c_max rfl hr.units) D_max (by rfl) T.n_max PyProof.Rows.boot_max (a_cons (d_int) (a_cons (d_op op_sub D_sub (d_var (pv 5)) (d_op o_mul D_mul (d_var (pv 2)) (d_var (pv 6)))) (a_nil)))))
    (s_cons (s_if (PW.pt (w_and (d_cmpT o_gt D_gt (d_var (pv 8)) (d_int) (nomark _)) (w_and1 (d_cmpT (op_eqP hr.units) D_eq (d_var (pv 7)) (d_int) (nomark _))))) (s_one (s_ret (d_non))) (s_nil))
    (s_one (s_if (d_cmpT o_gt D_gt (d_var (pv 8)) (d_int) (nomark _)) (s_one (s_set (i := 4) sc_second_runs.nd rfl (.inl rfl) (d_blt (c_max rfl hr.units) D_max (by rfl) T.n_max PyProof.Rows.boot_max (a_cons (d_var (pv 4)) (a_cons (d_op o_div D_div (d_op op_sub D_sub (d_op o_add D_add (d_var (pv 8)) (d_var (pv 7))) (d_int)) (d_var (pv 7))) (a_nil)))))) (s_nil))))))
    (s_one (s_ret (d_var (pv 4)))))
theorem ok_least_sum (T : Txt K mg ad fd ec tb) (G_is_number : FnOk P w K mg base (L2N.CX P w) 1 (ad 6) (fd 6) ["value", "least", "most"] (spD ⟨K, true, tb⟩ ec [false, false, false] fn_is_number)) (G_all_layouts : FnOk P w K mg base (L2N.CX P w) 1 (ad 13) (fd 13) ["many", "places"] (spD ⟨K, true, tb⟩ ec [false, false] fn_all_layouts)) (G_second_runs : FnOk P w K mg base (L2N.CX P w) 1 (ad 14) (fd 14) ["orders", "first", "runs", "second"] (spD ⟨K, true, tb⟩ ec [false, false, false, false] fn_second_runs)) : FnOk P w K mg base (L2N.CX P w) 2 (ad 15) (fd 15) ["orders", "places"] (spD ⟨K, true, tb⟩ ec [false, false] fn_least_sum) := by
  obtain ⟨t_MOST_LABELS_twoplates, c_MOST_LABELS_twoplates⟩ := T.c_MOST_LABELS_twoplates
  obtain ⟨t_MOST_ORDER_twoplates, c_MOST_ORDER_twoplates⟩ := T.c_MOST_ORDER_twoplates
  obtain ⟨t_MOST_PLACES_twoplates, c_MOST_PLACES_twoplates⟩ := T.c_MOST_PLACES_twoplates
  exact fnF T.F_least_sum sc_least_sum rfl (by decide) fun cdv A outer s H E H0 F0 io hx hn hr tk hp => show PSsD _ _ _ _ bd_least_sum from
    s_cons (s_if (t_not (d_val (d_call (n := 3) (G_is_number.mono (by decide)) hr (by rfl) T.g_is_number T.F_is_number.kp T.b_is_number tk (a_cons (d_var (pv 1)) (a_cons (d_int) (a_cons (d_glob (v := .int (4)) (by rfl) c_MOST_PLACES_twoplates ⟨_, rfl⟩ (fun _ => .int _)) (a_nil))))))) (s_one (s_raise (n := "OutOfRange") rfl rfl tk PySem.F.excBase_ValueError T.xe_OutOfRange T.x_OutOfRange T.xk_OutOfRange (raises_own T.xs_OutOfRange T.xt_OutOfRange) (by rfl))) (s_nil))
    (s_cons (s_if (PW.pt (w_or (d_cmpT o_gt D_gt (d_blt c_len D_len (by rfl) T.n_len PySem.boot_len (a_cons (d_var (pv 0)) (a_nil))) (d_glob (v := .int (3)) (by rfl) c_MOST_LABELS_twoplates ⟨_, rfl⟩ (fun _ => .int _)) (nomark _)) (w_or1 (d_cmpT o_gt D_gt (d_blt (c_max rfl hr.units) D_max (by rfl) T.n_max PyProof.Rows.boot_max (a_cons (d_var (pv 0)) (a_nil))) (d_glob (v := .int (60)) (by rfl) c_MOST_ORDER_twoplates ⟨_, rfl⟩ (fun _ => .int _)) (nomark _))))) (s_one (s_raise (n := "TooMuch") rfl rfl tk PySem.F.excBase_ValueError T.xe_TooMuch T.x_TooMuch T.xk_TooMuch (raises_own T.xs_TooMuch T.xt_TooMuch) (by rfl))) (s_nil))
    (s_cons (s_set (i := 2) sc_least_sum.nd rfl (.inl rfl) (d_call (n := 2) (G_all_layouts.mono (by decide)) hr (by rfl) T.g_all_layouts T.F_all_layouts.kp T.b_all_layouts tk (a_cons (d_blt c_len D_len (by rfl) T.n_len PySem.boot_len (a_cons (d_var (pv 0)) (a_nil))) (a_cons (d_var (pv 1)) (a_nil)))))
    (s_cons (s_set (i := 3) sc_least_sum.nd rfl (.inl rfl) (d_non))
    (s_cons (s_for hp rfl (i_seq rfl (d_var (pv 2))) (g_name (i := 4) sc_least_sum.nd rfl (.inl rfl)) (s_one (s_for hp rfl (i_seq rfl (d_var (pv 2))) (g_name (i := 5) sc_least_sum.nd rfl (.inl rfl)) (s_one (s_for hp rfl (i_range1 (by rfl) T.n_range (a_cons (d_op o_add D_add (d_blt (c_max rfl hr.units) D_max (by rfl) T.n_max PyProof.Rows.boot_max (a_cons (d_var (pv 0)) (a_nil))) (d_int)) (a_nil))) (g_name (i := 6) sc_least_sum.nd rfl (.inl rfl)) (s_cons (s_if (PW.pt (w_and (d_cmpT o_isNot D_isNot (d_var (pv 3)) (d_non) (nomark _)) (w_and1 (d_cmpT o_ge D_ge (d_var (pv 6)) (d_var (pv 3)) (nomark _))))) (s_one (s_break)) (s_nil))
    (s_cons (s_set (i := 7) sc_least_sum.nd rfl (.inl rfl) (d_call (n := 4) (G_second_runs.mono (by decide)) hr (by rfl) T.g_second_runs T.F_second_runs.kp T.b_second_runs tk (a_cons (d_var (pv 0)) (a_cons (d_var (pv 4)) (a_cons (d_var (pv 6)) (a_cons (d_var (pv 5)) (a_nil)))))))
    (s_one (s_if (PW.pt (w_and (d_cmpT o_isNot D_isNot (d_var (pv 7)) (d_non) (nomark _)) (w_and1 (PW.pt (w_or (d_cmpT o_is D_is (d_var (pv 3)) (d_non) (nomark _)) (w_or1 (d_cmpT o_lt D_lt (d_op o_add D_add (d_var (pv 6)) (d_var (pv 7))) (d_var (pv 3)) (nomark _)))))))) (s_one (s_set (i := 3) sc_least_sum.nd rfl (.inl rfl) (d_op o_add D_add (d_var (pv 6)) (d_var (pv 7))))) (s_nil))))))))))
    (s_one (s_ret (d_var (pv 3))))))))
theorem ok__law_word (T : Txt K mg ad fd ec tb)  : FnX P w K mg base (L2N.CX P w) 1 (ad 16) (fd 16) ["e"] (spX ⟨K, true, tb⟩ ec fn__law_word) := by
  exact fnXF T.F__law_word sc__law_word rfl (by decide) fun cdv A outer s H E p q H0 F0 io hx hn hr hh hq2 hq1 => show PSsD _ _ _ _ bd__law_word from
    s_cons (s_set (i := 1) sc__law_word.nd rfl (.inl rfl) (d_lst (a_cons (d_isE T.errs hh rfl (by rfl) T.n_isinstance (by rfl) T.x_OutOfRange (pv 0)) (a_cons (d_isE T.errs hh rfl (by rfl) T.n_isinstance (by rfl) T.x_Malformed (pv 0)) (a_cons (d_isE T.errs hh rfl (by rfl) T.n_isinstance (by rfl) T.x_NotThere (pv 0)) (a_cons (d_isE T.errs hh rfl (by rfl) T.n_isinstance (by rfl) T.x_Refused (pv 0)) (a_cons (d_isE T.errs hh rfl (by rfl) T.n_isinstance (by rfl) T.x_TooMuch (pv 0)) (a_nil))))))))
    (s_cons (s_if (d_cmpT (op_neP (hu64 hr)) D_ne (d_blt c_len D_len (by rfl) T.n_len PySem.boot_len (a_cons (d_lcQ (own := [("one", 2)]) hq1 hq2 sc__law_word.nd (d_var (pv 1)) (blkOk_by (own := [("one", 2)]) (N := N__law_word) (sc := (defScope s__law_word)) (by decide +kernel)) (by decide) (fun _ _ _ _ _ _ _ => g_name (i := 2) sc__law_word.nd rfl (.inl rfl)) (fun _ _ _ _ _ _ _ => ts_one (d_val (d_var (pv 2)))) (fun _ _ _ _ _ _ _ => d_var (pv 2))) (a_nil))) (d_int) (nomark _)) (s_one (s_ret (d_str))) (s_nil))
    (s_one (s_ret (d_ix rfl (fun z => nomatch z) (hu64 hr) (d_lst (a_cons (d_str) (a_cons (d_str) (a_cons (d_str) (a_cons (d_str) (a_cons (d_str) (a_nil))))))) (d_metR rfl PySem.F.plainAttrs_list PySem.F.slot_list_index PySem.F.type_list_index mt_index M_index (d_var (pv 1)) (a_cons (d_bl) (a_nil))) (fun _ _ => rfl)))))
theorem ok__law_told (T : Txt K mg ad fd ec tb) (G_fewest_runs : FnOk P w K mg base (L2N.CX P w) 3 (ad 11) (fd 11) ["orders", "places"] (spD ⟨K, true, tb⟩ ec [false, false] fn_fewest_runs)) (G_told_layout : FnOk P w K mg base (L2N.CX P w) 4 (ad 12) (fd 12) ["orders", "places"] (spD ⟨K, true, tb⟩ ec [false, false] fn_told_layout)) (G_least_sum : FnOk P w K mg base (L2N.CX P w) 2 (ad 15) (fd 15) ["orders", "places"] (spD ⟨K, true, tb⟩ ec [false, false] fn_least_sum)) (G__law_word : FnX P w K mg base (L2N.CX P w) 1 (ad 16) (fd 16) ["e"] (spX ⟨K, true, tb⟩ ec fn__law_word)) : FnOk P w K mg base (L2N.CX P w) 5 (ad 17) (fd 17) ["which", "orders", "places"] (spD ⟨K, true, tb⟩ ec [false, false, false] fn__law_told) := by
  exact fnF T.F__law_told sc__law_told rfl (by decide) fun cdv A outer s H E H0 F0 io hx hn hr tk hp => show PSsD _ _ _ _ bd__law_told from
    s_one (s_try (i := 3) (m := "PrintError") T.errs rfl rfl rfl sc__law_told.nd rfl rfl (by rfl) T.x_PrintError tk (fun _ _ _ tk1 hp1 => s_cons (s_if (d_cmpT (op_eqP hr.units) D_eq (d_var (pv 0)) (d_int) (nomark _)) (s_one (s_ret (d_call (n := 2) (G_fewest_runs.mono (by decide)) hr (by rfl) T.g_fewest_runs T.F_fewest_runs.kp T.b_fewest_runs tk1 (a_cons (d_var (pv 1)) (a_cons (d_var (pv 2)) (a_nil)))))) (s_nil))
    (s_one (s_ret (d_if (d_cmpT (op_eqP hr.units) D_eq (d_var (pv 0)) (d_int) (nomark _)) (d_call (n := 2) (G_told_layout.mono (by decide)) hr (by rfl) T.g_told_layout T.F_told_layout.kp T.b_told_layout tk1 (a_cons (d_var (pv 1)) (a_cons (d_var (pv 2)) (a_nil)))) (d_call (n := 2) (G_least_sum.mono (by decide)) hr (by rfl) T.g_least_sum T.F_least_sum.kp T.b_least_sum tk1 (a_cons (d_var (pv 1)) (a_cons (d_var (pv 2)) (a_nil)))))))) (fun _ _ _ _ hh => s_one (s_ret (d_callX G__law_word (roomH_le hr (by decide)) hh (by rfl) T.g__law_word T.F__law_word.kp T.b__law_word (pv 3)))))
theorem ok_is_layout (T : Txt K mg ad fd ec tb) {cc PP : Addr} (FC : FunC K "is_layout" "is_layout" s_is_layout (ad 18) (fd 18) cc) (TB : GxR.TabB base mg cc PP) (hPtb : tb PP) (G_is_number : FnOk P w K mg base (L2N.CX P w) 1 (ad 6) (fd 6) ["value", "least", "most"] (spD ⟨K, true, tb⟩ ec [false, false, false] fn_is_number)) : FnOk P w K mg base (L2N.CX P w) 5 (ad 18) (fd 18) ["orders", "places", "value"] (spD ⟨K, true, tb⟩ ec [false, false, false] fn_is_layout) := by
  exact fnFG FC sc_is_layout rfl (by decide) fun A outer s H E H0 F0 io hx hn hr tk hp => show PSsD _ _ _ _ bd_is_layout from
    s_cons (s_if (PW.pt (w_or (t_not (d_val (d_isi (T := "tuple") rfl (by decide) (by rfl) T.n_isinstance (by rfl) T.n_tuple PyProof.Rows.boot_tuple (d_var (pv 2))))) (w_or1 (d_cmpT (op_neP hr.units) D_ne (d_blt c_len D_len (by rfl) T.n_len PySem.boot_len (a_cons (d_var (pv 2)) (a_nil))) (d_blt c_len D_len (by rfl) T.n_len PySem.boot_len (a_cons (d_var (pv 0)) (a_nil))) (nomark _))))) (s_one (s_ret (d_bl))) (s_nil))
    (s_one (s_ret (d_and (d_allG (k := 1) (own := [("one", 3)]) (hr.mono (by decide)) (by rfl) T.n_all PyProof.Rows.boot_all TB hPtb rfl sc_is_layout.nd (blkOk_by (own := [("one", 3)]) (N := N_is_layout) (sc := (defScope s_is_layout)) (by decide +kernel)) (by decide +kernel) (by decide +kernel) (by decide +kernel) (i_seq rfl (d_var (pv 2))) (by decide) (fun _ _ _ _ _ _ _ _ => g_name (i := 3) sc_is_layout.nd rfl (.inl rfl)) (fun _ _ _ _ _ _ _ hrg => d_call (n := 3) (G_is_number.mono (by decide)) hrg (by rfl) T.g_is_number T.F_is_number.kp T.b_is_number takesNo (a_cons (d_var (pv 3)) (a_cons (d_int) (a_cons (d_var (pv 1)) (a_nil)))))) (d_one (d_cmp o_le D_le (d_blt (c_sum rfl) D_sum (by rfl) T.n_sum PyProof.Rows.boot_sum (a_cons (d_var (pv 2)) (a_nil))) (d_var (pv 1)) (nomark _))))))
theorem ok__law_given (T : Txt K mg ad fd ec tb) (G__law_runs : FnOk P w K mg base (L2N.CX P w) 1 (ad 5) (fd 5) ["orders", "layout"] (spD ⟨K, true, tb⟩ ec [false, false] fn__law_runs)) : FnOk P w K mg base (L2N.CX P w) 2 (ad 19) (fd 19) ["orders", "places"] (spD ⟨K, true, tb⟩ ec [false, false] fn__law_given) := by
  exact fnF T.F__law_given sc__law_given rfl (by decide) fun cdv A outer s H E H0 F0 io hx hn hr tk hp => show PSsD _ _ _ _ bd__law_given from
    s_cons (s_set (i := 2) sc__law_given.nd rfl (.inr rfl) (d_op o_mul D_mul (d_lst (a_cons (d_int) (a_nil))) (d_blt c_len D_len (by rfl) T.n_len PySem.boot_len (a_cons (d_var (pv 0)) (a_nil)))))
    (s_cons (s_while hp (d_cmpT o_lt D_lt (d_blt (c_sum rfl) D_sum (by rfl) T.n_sum PyProof.Rows.boot_sum (a_cons (d_var (pv 2)) (a_nil))) (d_var (pv 1)) (nomark _)) (s_cons (s_setLc (k := 3) (own := [("k", 4)]) rfl sc__law_given.nd rfl rfl (sw_true rfl rfl rfl rfl) (i_range1 (by rfl) T.n_range (a_cons (d_blt c_len D_len (by rfl) T.n_len PySem.boot_len (a_cons (d_var (pv 0)) (a_nil))) (a_nil))) (blkOk_by (own := [("k", 4)]) (N := N__law_given) (sc := (defScope s__law_given)) (by decide +kernel)) (by decide) (fun _ _ _ _ _ _ _ => g_name (i := 4) sc__law_given.nd rfl (.inl rfl)) (fun _ _ _ _ _ _ _ => ts_nil) (fun _ _ _ _ _ _ _ => d_call (n := 2) (G__law_runs.mono (by decide)) hr (by rfl) T.g__law_runs T.F__law_runs.kp T.b__law_runs takesNo (a_cons (d_tup (a_cons (d_ix rfl (fun z => nomatch z) hr.units (d_var (pv 0)) (d_var (pv 4)) (fun _ _ => rfl)) (a_nil))) (a_cons (d_tup (a_cons (d_ix rfl (fun z => nomatch z) hr.units (d_var (pv 2)) (d_var (pv 4)) (fun _ _ => rfl)) (a_nil))) (a_nil)))))
    (s_cons (s_set (i := 4) sc__law_given.nd rfl (.inl rfl) (d_metR rfl PySem.F.plainAttrs_list PySem.F.slot_list_index PySem.F.type_list_index mt_index M_index (d_var (pv 3)) (a_cons (d_blt (c_max rfl hr.units) D_max (by rfl) T.n_max PyProof.Rows.boot_max (a_cons (d_var (pv 3)) (a_nil))) (a_nil))))
    (s_one (Pd.s_put (fun z => nomatch z) hr.units (d_op o_add D_add (d_ix rfl (fun z => nomatch z) hr.units (d_var (pv 2)) (d_var (pv 4)) (fun _ _ => rfl)) (d_int)) (pv 2) (d_var (pv 4)))))))
    (s_one (s_ret (d_call (n := 2) (G__law_runs.mono (by decide)) hr (by rfl) T.g__law_runs T.F__law_runs.kp T.b__law_runs tk (a_cons (d_var (pv 0)) (a_cons (d_bltT call_tuple_of D_tuple (by rfl) T.n_tuple PyProof.Rows.boot_tuple (a_cons (d_var (pv 2)) (a_nil))) (a_nil)))))))
theorem ok_runs_of (T : Txt K mg ad fd ec tb)  : FnOk P w K mg base (L2N.CX P w) 1 (ad 20) (fd 20) ["orders", "layout"] (spD ⟨K, true, tb⟩ ec [false, false] fn_runs_of) := by
  exact fnF T.F_runs_of sc_runs_of rfl (by decide) fun cdv A outer s H E H0 F0 io hx hn hr tk hp => show PSsD _ _ _ _ bd_runs_of from
    s_cons (s_if (d_cmpT (op_eqP hr.units) D_eq (d_blt (c_min rfl hr.units) D_min (by rfl) T.n_min PyProof.Rows.boot_min (a_cons (d_var (pv 1)) (a_nil))) (d_int) (nomark _)) (s_one (s_ret (d_non))) (s_nil))
    (s_one (s_ret (d_blt (c_max rfl hr.units) D_max (by rfl) T.n_max PyProof.Rows.boot_max (a_cons (d_lc (own := [("order", 2), ("many", 3)]) rfl sc_runs_of.nd (i_zip rfl (by rfl) T.n_zip (a_cons (d_var (pv 0)) (a_cons (d_var (pv 1)) (a_nil)))) (blkOk_by (own := [("order", 2), ("many", 3)]) (N := N_runs_of) (sc := (defScope s_runs_of)) (by decide +kernel)) (by decide) (fun _ _ _ _ _ _ _ => g_tup rfl rfl (g_cons (g_name (i := 2) sc_runs_of.nd rfl (.inl rfl)) (g_cons (g_name (i := 3) sc_runs_of.nd rfl (.inl rfl)) (g_nil))) rfl) (fun _ _ _ _ _ _ _ => ts_nil) (fun _ _ _ _ _ _ _ => d_op o_div D_div (d_op op_sub D_sub (d_op o_add D_add (d_var (pv 2)) (d_var (pv 3))) (d_int)) (d_var (pv 3)))) (a_nil)))))
theorem ok_waste_of (T : Txt K mg ad fd ec tb) (G_runs_of : FnOk P w K mg base (L2N.CX P w) 1 (ad 20) (fd 20) ["orders", "layout"] (spD ⟨K, true, tb⟩ ec [false, false] fn_runs_of)) : FnOk P w K mg base (L2N.CX P w) 2 (ad 21) (fd 21) ["orders", "layout"] (spD ⟨K, true, tb⟩ ec [false, false] fn_waste_of) := by
  exact fnF T.F_waste_of sc_waste_of rfl (by decide) fun cdv A outer s H E H0 F0 io hx hn hr tk hp => show PSsD _ _ _ _ bd_waste_of from
    s_cons (s_set (i := 2) sc_waste_of.nd rfl (.inl rfl) (d_call (n := 2) (G_runs_of.mono (by decide)) hr (by rfl) T.g_runs_of T.F_runs_of.kp T.b_runs_of tk (a_cons (d_var (pv 0)) (a_cons (d_var (pv 1)) (a_nil)))))
    (s_one (s_ret (d_if (d_cmpT o_is D_is (d_var (pv 2)) (d_non) (nomark _)) (d_non) (d_op op_sub D_sub (d_op o_mul D_mul (d_var (pv 2)) (d_blt (c_sum rfl) D_sum (by rfl) T.n_sum PyProof.Rows.boot_sum (a_cons (d_var (pv 1)) (a_nil)))) (d_blt (c_sum rfl) D_sum (by rfl) T.n_sum PyProof.Rows.boot_sum (a_cons (d_var (pv 0)) (a_nil)))))))
theorem ok_law (T : Txt K mg ad fd ec tb) (G__law_draws : FnOk P w K mg base (L2N.CX P w) 1 (ad 0) (fd 0) ["script"] (spD ⟨K, true, tb⟩ ec [false] fn__law_draws)) (G__law_take : FnOk P w K mg base (L2N.CX P w) 1 (ad 3) (fd 3) ["draws", "bound"] (spD ⟨K, true, tb⟩ ec [true, false] fn__law_take)) (G__law_says : FnOk P w K mg base (L2N.CX P w) 1 (ad 4) (fd 4) ["told", "due"] (spD ⟨K, true, tb⟩ ec [false, false] fn__law_says)) (G_are_orders : FnOk P w K mg base (L2N.CX P w) 5 (ad 7) (fd 7) ["value"] (spD ⟨K, true, tb⟩ ec [false] fn_are_orders)) (G__law_runs : FnOk P w K mg base (L2N.CX P w) 1 (ad 5) (fd 5) ["orders", "layout"] (spD ⟨K, true, tb⟩ ec [false, false] fn__law_runs)) (G__law_layouts : FnOk P w K mg base (L2N.CX P w) 1 (ad 1) (fd 1) ["many", "places"] (spD ⟨K, true, tb⟩ ec [false, false] fn__law_layouts)) (G__law_alike : FnOk P w K mg base (L2N.CX P w) 9 (ad 8) (fd 8) ["found", "due"] (spD ⟨K, true, tb⟩ ec [false, false] fn__law_alike)) (G__law_told : FnOk P w K mg base (L2N.CX P w) 5 (ad 17) (fd 17) ["which", "orders", "places"] (spD ⟨K, true, tb⟩ ec [false, false, false] fn__law_told)) (G__law_given : FnOk P w K mg base (L2N.CX P w) 2 (ad 19) (fd 19) ["orders", "places"] (spD ⟨K, true, tb⟩ ec [false, false] fn__law_given)) (G_is_layout : FnOk P w K mg base (L2N.CX P w) 5 (ad 18) (fd 18) ["orders", "places", "value"] (spD ⟨K, true, tb⟩ ec [false, false, false] fn_is_layout)) (G_waste_of : FnOk P w K mg base (L2N.CX P w) 2 (ad 21) (fd 21) ["orders", "layout"] (spD ⟨K, true, tb⟩ ec [false, false] fn_waste_of)) (G_runs_of : FnOk P w K mg base (L2N.CX P w) 1 (ad 20) (fd 20) ["orders", "layout"] (spD ⟨K, true, tb⟩ ec [false, false] fn_runs_of)) (G_fewest_runs : FnOk P w K mg base (L2N.CX P w) 3 (ad 11) (fd 11) ["orders", "places"] (spD ⟨K, true, tb⟩ ec [false, false] fn_fewest_runs)) (G__law_two : FnOk P w K mg base (L2N.CX P w) 2 (ad 2) (fd 2) ["orders", "places"] (spD ⟨K, true, tb⟩ ec [false, false] fn__law_two)) : FnOk P w K mg base (L2N.CX P w) 10 (ad 22) (fd 22) ["script"] (spD ⟨K, true, tb⟩ ec [false] fn_law) := by
  exact fnF T.F_law sc_law rfl (by decide) fun cdv A outer s H E H0 F0 io hx hn hr tk hp => show PSsD _ _ _ _ bd_law from
    s_cons (s_set (i := 1) sc_law.nd rfl (.inr rfl) (d_call (n := 1) (G__law_draws.mono (by decide)) hr (by rfl) T.g__law_draws T.F__law_draws.kp T.b__law_draws tk (a_cons (d_var (pv 0)) (a_nil))))
    (s_cons (s_set (i := 2) sc_law.nd rfl (.inr rfl) (d_ix rfl (fun z => nomatch z) hr.units (d_lst (a_cons (d_int) (a_cons (d_int) (a_cons (d_int) (a_nil))))) (d_callM (G__law_take.mono (by decide)) hr (by rfl) T.g__law_take T.F__law_take.kp T.b__law_take tk (a_cons (d_var (pv 1)) (a_cons (d_int) (a_nil)))) (fun _ _ => rfl)))
    (s_cons (s_set (i := 3) sc_law.nd rfl (.inr rfl) (d_bltT call_tuple_of D_tuple (by rfl) T.n_tuple PyProof.Rows.boot_tuple (a_cons (d_lc (own := [("label", 18)]) rfl sc_law.nd (i_range1 (by rfl) T.n_range (a_cons (d_op o_add D_add (d_int) (d_callM (G__law_take.mono (by decide)) hr (by rfl) T.g__law_take T.F__law_take.kp T.b__law_take tk (a_cons (d_var (pv 1)) (a_cons (d_int) (a_nil))))) (a_nil))) (blkOk_by (own := [("label", 18)]) (N := N_law) (sc := (defScope s_law)) (by decide +kernel)) (by decide) (fun _ _ _ _ _ _ _ => g_name (i := 18) sc_law.nd rfl (.inl rfl)) (fun _ _ _ _ _ _ _ => ts_nil) (fun _ _ _ _ _ _ _ => d_op o_add D_add (d_int) (d_callM (G__law_take.mono (by decide)) hr (by rfl) T.g__law_take T.F__law_take.kp T.b__law_take takesNo (a_cons (d_var (pv 1)) (a_cons (d_var (pv 2)) (a_nil)))))) (a_nil))))
    (s_cons (s_set (i := 4) sc_law.nd rfl (.inl rfl) (d_blt c_len D_len (by rfl) T.n_len PySem.boot_len (a_cons (d_var (pv 3)) (a_nil))))
    (s_cons (s_if (t_not (d_val (d_call (n := 2) (G__law_says.mono (by decide)) hr (by rfl) T.g__law_says T.F__law_says.kp T.b__law_says tk (a_cons (d_call (n := 1) (G_are_orders.mono (by decide)) hr (by rfl) T.g_are_orders T.F_are_orders.kp T.b_are_orders tk (a_cons (d_var (pv 3)) (a_nil))) (a_cons (d_bl) (a_nil)))))) (s_one (s_ret (d_bl))) (s_nil))
    (s_cons (s_set (i := 5) sc_law.nd rfl (.inl rfl) (d_non))
    (s_cons (s_for hp rfl (i_range2 (by rfl) T.n_range (a_cons (d_int) (a_cons (d_int) (a_nil)))) (g_name (i := 6) sc_law.nd rfl (.inr rfl)) (s_cons (s_set (i := 12) sc_law.nd rfl (.inl rfl) (d_blt (c_sort rfl hr.units) D_sortI (by rfl) T.n_sorted PyProof.Rows.boot_sorted (a_cons (d_lc (own := [("row", 13)]) rfl sc_law.nd (i_seq rfl (d_call (n := 2) (G__law_layouts.mono (by decide)) hr (by rfl) T.g__law_layouts T.F__law_layouts.kp T.b__law_layouts tk (a_cons (d_var (pv 4)) (a_cons (d_var (pv 6)) (a_nil))))) (blkOk_by (own := [("row", 13)]) (N := N_law) (sc := (defScope s_law)) (by decide +kernel)) (by decide) (fun _ _ _ _ _ _ _ => g_name (i := 13) sc_law.nd rfl (.inl rfl)) (fun _ _ _ _ _ _ _ => ts_one (d_cmpT (o_notIn hr.units) (D_notIn (fun z => nomatch z)) (d_int) (d_var (pv 13)) (by rfl))) (fun _ _ _ _ _ _ _ => d_tup (a_cons (d_call (n := 2) (G__law_runs.mono (by decide)) hr (by rfl) T.g__law_runs T.F__law_runs.kp T.b__law_runs takesNo (a_cons (d_var (pv 3)) (a_cons (d_var (pv 13)) (a_nil)))) (a_cons (d_var (pv 13)) (a_nil))))) (a_nil))))
    (s_cons (s_set (i := 9) sc_law.nd rfl (.inr rfl) (d_if (d_cmpT (op_neP hr.units) D_ne (d_var (pv 12)) (d_lst (a_nil)) (nomark _)) (d_ix rfl (fun z => nomatch z) hr.units (d_var (pv 12)) (d_int) (fun _ _ => rfl)) (d_tup (a_cons (d_non) (a_cons (d_non) (a_nil))))))
    (s_cons (s_if (PW.pt (w_or (t_not (d_val (d_call (n := 2) (G__law_alike.mono (by decide)) hr (by rfl) T.g__law_alike T.F__law_alike.kp T.b__law_alike tk (a_cons (d_lst (a_cons (d_call (n := 3) (G__law_told.mono (by decide)) hr (by rfl) T.g__law_told T.F__law_told.kp T.b__law_told tk (a_cons (d_int) (a_cons (d_var (pv 3)) (a_cons (d_var (pv 6)) (a_nil))))) (a_cons (d_call (n := 3) (G__law_told.mono (by decide)) hr (by rfl) T.g__law_told T.F__law_told.kp T.b__law_told tk (a_cons (d_int) (a_cons (d_var (pv 3)) (a_cons (d_var (pv 6)) (a_nil))))) (a_nil)))) (a_cons (d_lst (a_cons (d_ix rfl (fun z => nomatch z) hr.units (d_var (pv 9)) (d_int) (fun _ _ => rfl)) (a_cons (d_ix rfl (fun z => nomatch z) hr.units (d_var (pv 9)) (d_int) (fun _ _ => rfl)) (a_nil)))) (a_nil)))))) (w_or1 (d_cmpT (op_neP hr.units) D_ne (d_cmp (op_eqP hr.units) D_eq (d_var (pv 12)) (d_lst (a_nil)) (nomark _)) (d_cmp o_lt D_lt (d_var (pv 6)) (d_var (pv 4)) (nomark _)) (nomark _))))) (s_one (s_ret (d_bl))) (s_nil))
    (s_one (s_if (d_cmpT (op_neP hr.units) D_ne (d_var (pv 12)) (d_lst (a_nil)) (nomark _)) (s_cons (s_set (i := 17) sc_law.nd rfl (.inl rfl) (d_blt (c_max rfl hr.units) D_max (by rfl) T.n_max PyProof.Rows.boot_max (a_cons (d_op o_div D_div (d_op op_sub D_sub (d_op o_add D_add (d_blt (c_sum rfl) D_sum (by rfl) T.n_sum PyProof.Rows.boot_sum (a_cons (d_var (pv 3)) (a_nil))) (d_var (pv 6))) (d_int)) (d_var (pv 6))) (a_cons (d_op o_div D_div (d_op op_sub D_sub (d_op o_add D_add (d_blt (c_max rfl hr.units) D_max (by rfl) T.n_max PyProof.Rows.boot_max (a_cons (d_var (pv 3)) (a_nil))) (d_var (pv 6))) (d_var (pv 4))) (d_op o_add D_add (d_op op_sub D_sub (d_var (pv 6)) (d_var (pv 4))) (d_int))) (a_nil)))))
    (s_cons (s_if (PW.pt (w_or (d_cmpT o_lt D_lt (d_ix rfl (fun z => nomatch z) hr.units (d_var (pv 9)) (d_int) (fun _ _ => rfl)) (d_var (pv 17)) (nomark _)) (w_or (PW.pt (w_and (d_cmpT o_isNot D_isNot (d_var (pv 5)) (d_non) (nomark _)) (w_and1 (d_cmpT o_gt D_gt (d_ix rfl (fun z => nomatch z) hr.units (d_var (pv 9)) (d_int) (fun _ _ => rfl)) (d_var (pv 5)) (nomark _))))) (w_or1 (d_cmpT (op_neP hr.units) D_ne (d_call (n := 2) (G__law_given.mono (by decide)) hr (by rfl) T.g__law_given T.F__law_given.kp T.b__law_given tk (a_cons (d_var (pv 3)) (a_cons (d_var (pv 6)) (a_nil)))) (d_ix rfl (fun z => nomatch z) hr.units (d_var (pv 9)) (d_int) (fun _ _ => rfl)) (nomark _)))))) (s_one (s_ret (d_bl))) (s_nil))
    (s_cons (s_if (PW.pt (w_or (d_cmpT (op_neP hr.units) D_ne (d_lc (own := [("k", 22)]) rfl sc_law.nd (i_range2 (by rfl) T.n_range (a_cons (d_int) (a_cons (d_blt (c_min rfl hr.units) D_min (by rfl) T.n_min PyProof.Rows.boot_min (a_cons (d_ix rfl (fun z => nomatch z) hr.units (d_var (pv 9)) (d_int) (fun _ _ => rfl)) (a_cons (d_int) (a_nil)))) (a_nil)))) (blkOk_by (own := [("k", 22)]) (N := N_law) (sc := (defScope s_law)) (by decide +kernel)) (by decide) (fun _ _ _ _ _ _ _ => g_name (i := 22) sc_law.nd rfl (.inr rfl)) (fun _ _ _ _ _ _ _ => ts_one (d_cmpT o_le D_le (d_blt (c_sum rfl) D_sum (by rfl) T.n_sum PyProof.Rows.boot_sum (a_cons (d_lc (own := [("order", 19)]) rfl sc_law.nd (i_seq rfl (d_var (pv 3))) (blkN (own := [("order", 19)]) (N := N_law) (by decide +kernel)) (by decide) (fun _ _ _ _ _ _ _ => g_name (i := 19) sc_law.nd rfl (.inl rfl)) (fun _ _ _ _ _ _ _ => ts_nil) (fun _ _ _ _ _ _ _ => d_op o_div D_div (d_op op_sub D_sub (d_op o_add D_add (d_var (pv 19)) (d_var (pv 22))) (d_int)) (d_var (pv 22)))) (a_nil))) (d_var (pv 6)) (nomark _))) (fun _ _ _ _ _ _ _ => d_var (pv 22))) (d_lst (a_nil)) (nomark _)) (w_or1 (d_cmpT o_gt D_gt (d_blt (c_sum rfl) D_sum (by rfl) T.n_sum PyProof.Rows.boot_sum (a_cons (d_lc (own := [("order", 19)]) rfl sc_law.nd (i_seq rfl (d_var (pv 3))) (blkOk_by (own := [("order", 19)]) (N := N_law) (sc := (defScope s_law)) (by decide +kernel)) (by decide) (fun _ _ _ _ _ _ _ => g_name (i := 19) sc_law.nd rfl (.inl rfl)) (fun _ _ _ _ _ _ _ => ts_nil) (fun _ _ _ _ _ _ _ => d_op o_div D_div (d_op op_sub D_sub (d_op o_add D_add (d_var (pv 19)) (d_ix rfl (fun z => nomatch z) hr.units (d_var (pv 9)) (d_int) (fun _ _ => rfl))) (d_int)) (d_ix rfl (fun z => nomatch z) hr.units (d_var (pv 9)) (d_int) (fun _ _ => rfl)))) (a_nil))) (d_var (pv 6)) (nomark _))))) (s_one (s_ret (d_bl))) (s_nil))
    (s_one (s_set (i := 5) sc_law.nd rfl (.inl rfl) (d_ix rfl (fun z => nomatch z) hr.units (d_var (pv 9)) (d_int) (fun _ _ => rfl))))))) (s_nil)))))))
    (s_cons (s_for hp rfl (i_range1 (by rfl) T.n_range (a_cons (d_int) (a_nil))) (g_name (i := 7) sc_law.nd rfl (.inl rfl)) (s_cons (s_set (i := 6) sc_law.nd rfl (.inr rfl) (d_op o_add D_add (d_int) (d_callM (G__law_take.mono (by decide)) hr (by rfl) T.g__law_take T.F__law_take.kp T.b__law_take tk (a_cons (d_var (pv 1)) (a_cons (d_int) (a_nil))))))
    (s_cons (s_set (i := 13) sc_law.nd rfl (.inr rfl) (d_bltT call_tuple_of D_tuple (by rfl) T.n_tuple PyProof.Rows.boot_tuple (a_cons (d_lc (own := [("label", 18)]) rfl sc_law.nd (i_seq rfl (d_var (pv 3))) (blkOk_by (own := [("label", 18)]) (N := N_law) (sc := (defScope s_law)) (by decide +kernel)) (by decide) (fun _ _ _ _ _ _ _ => g_name (i := 18) sc_law.nd rfl (.inl rfl)) (fun _ _ _ _ _ _ _ => ts_nil) (fun _ _ _ _ _ _ _ => d_callM (G__law_take.mono (by decide)) hr (by rfl) T.g__law_take T.F__law_take.kp T.b__law_take takesNo (a_cons (d_var (pv 1)) (a_cons (d_int) (a_nil))))) (a_nil))))
    (s_cons (s_if (t_not (d_val (d_call (n := 2) (G__law_says.mono (by decide)) hr (by rfl) T.g__law_says T.F__law_says.kp T.b__law_says tk (a_cons (d_call (n := 3) (G_is_layout.mono (by decide)) hr (by rfl) T.g_is_layout T.F_is_layout.kp T.b_is_layout tk (a_cons (d_var (pv 3)) (a_cons (d_var (pv 6)) (a_cons (d_var (pv 13)) (a_nil))))) (a_cons (d_and (d_cmp o_le D_le (d_blt (c_sum rfl) D_sum (by rfl) T.n_sum PyProof.Rows.boot_sum (a_cons (d_var (pv 13)) (a_nil))) (d_var (pv 6)) (nomark _)) (d_one (d_cmp o_le D_le (d_blt (c_max rfl hr.units) D_max (by rfl) T.n_max PyProof.Rows.boot_max (a_cons (d_var (pv 13)) (a_nil))) (d_var (pv 6)) (nomark _)))) (a_nil)))))) (s_one (s_ret (d_bl))) (s_nil))
    (s_cons (s_set (i := 14) sc_law.nd rfl (.inr rfl) (d_call (n := 2) (G__law_runs.mono (by decide)) hr (by rfl) T.g__law_runs T.F__law_runs.kp T.b__law_runs tk (a_cons (d_var (pv 3)) (a_cons (d_var (pv 13)) (a_nil)))))
    (s_cons (s_set (i := 15) sc_law.nd rfl (.inl rfl) (d_if (d_cmpT o_isNot D_isNot (d_var (pv 14)) (d_non) (nomark _)) (d_blt (c_sum rfl) D_sum (by rfl) T.n_sum PyProof.Rows.boot_sum (a_cons (d_lc (own := [("k", 22)]) rfl sc_law.nd (i_range1 (by rfl) T.n_range (a_cons (d_var (pv 4)) (a_nil))) (blkOk_by (own := [("k", 22)]) (N := N_law) (sc := (defScope s_law)) (by decide +kernel)) (by decide) (fun _ _ _ _ _ _ _ => g_name (i := 22) sc_law.nd rfl (.inl rfl)) (fun _ _ _ _ _ _ _ => ts_nil) (fun _ _ _ _ _ _ _ => d_op op_sub D_sub (d_op o_mul D_mul (d_var (pv 14)) (d_ix rfl (fun z => nomatch z) hr.units (d_var (pv 13)) (d_var (pv 22)) (fun _ _ => rfl))) (d_ix rfl (fun z => nomatch z) hr.units (d_var (pv 3)) (d_var (pv 22)) (fun _ _ => rfl)))) (a_nil))) (d_non)))
    (s_one (s_if (t_not (d_val (d_call (n := 2) (G__law_alike.mono (by decide)) hr (by rfl) T.g__law_alike T.F__law_alike.kp T.b__law_alike tk (a_cons (d_lst (a_cons (d_call (n := 2) (G_runs_of.mono (by decide)) hr (by rfl) T.g_runs_of T.F_runs_of.kp T.b_runs_of tk (a_cons (d_var (pv 3)) (a_cons (d_var (pv 13)) (a_nil)))) (a_cons (d_call (n := 2) (G_waste_of.mono (by decide)) hr (by rfl) T.g_waste_of T.F_waste_of.kp T.b_waste_of tk (a_cons (d_var (pv 3)) (a_cons (d_var (pv 13)) (a_nil)))) (a_nil)))) (a_cons (d_lst (a_cons (d_var (pv 14)) (a_cons (d_var (pv 15)) (a_nil)))) (a_nil)))))) (s_one (s_ret (d_bl))) (s_nil)))))))))
    (s_cons (s_if (d_cmpT o_lt D_lt (d_var (pv 2)) (d_int) (nomark _)) (s_cons (s_set (i := 16) sc_law.nd rfl (.inl rfl) (d_bltT call_tuple_of D_tuple (by rfl) T.n_tuple PyProof.Rows.boot_tuple (a_cons (d_lc (own := [("order", 19)]) rfl sc_law.nd (i_seq rfl (d_var (pv 3))) (blkOk_by (own := [("order", 19)]) (N := N_law) (sc := (defScope s_law)) (by decide +kernel)) (by decide) (fun _ _ _ _ _ _ _ => g_name (i := 19) sc_law.nd rfl (.inl rfl)) (fun _ _ _ _ _ _ _ => ts_nil) (fun _ _ _ _ _ _ _ => d_op o_mul D_mul (d_int) (d_var (pv 19)))) (a_nil))))
    (s_one (s_if (d_cmpT o_gt D_gt (d_call (n := 2) (G_fewest_runs.mono (by decide)) hr (by rfl) T.g_fewest_runs T.F_fewest_runs.kp T.b_fewest_runs tk (a_cons (d_var (pv 16)) (a_cons (d_int) (a_nil)))) (d_op o_mul D_mul (d_int) (d_call (n := 2) (G_fewest_runs.mono (by decide)) hr (by rfl) T.g_fewest_runs T.F_fewest_runs.kp T.b_fewest_runs tk (a_cons (d_var (pv 3)) (a_cons (d_int) (a_nil))))) (nomark _)) (s_one (s_ret (d_bl))) (s_nil)))) (s_nil))
    (s_cons (s_set (i := 8) sc_law.nd rfl (.inl rfl) (d_bltT call_tuple_of D_tuple (by rfl) T.n_tuple PyProof.Rows.boot_tuple (a_cons (d_lc (own := [("order", 19)]) rfl sc_law.nd (i_seq rfl (d_sl rfl (d_var (pv 3)) (p_no) (p_at (d_int)))) (blkOk_by (own := [("order", 19)]) (N := N_law) (sc := (defScope s_law)) (by decide +kernel)) (by decide) (fun _ _ _ _ _ _ _ => g_name (i := 19) sc_law.nd rfl (.inl rfl)) (fun _ _ _ _ _ _ _ => ts_nil) (fun _ _ _ _ _ _ _ => d_if (d_cmpT o_gt D_gt (d_var (pv 19)) (d_int) (nomark _)) (d_op o_add D_add (d_int) (d_op o_div D_div (d_var (pv 19)) (d_int))) (d_var (pv 19)))) (a_nil))))
    (s_cons (s_set (i := 6) sc_law.nd rfl (.inr rfl) (d_op o_add D_add (d_int) (d_callM (G__law_take.mono (by decide)) hr (by rfl) T.g__law_take T.F__law_take.kp T.b__law_take tk (a_cons (d_var (pv 1)) (a_cons (d_if (d_cmpT (op_eqP hr.units) D_eq (d_blt c_len D_len (by rfl) T.n_len PySem.boot_len (a_cons (d_var (pv 8)) (a_nil))) (d_int) (nomark _)) (d_int) (d_int)) (a_nil))))))
    (s_cons (s_set (i := 9) sc_law.nd rfl (.inr rfl) (d_call (n := 2) (G__law_two.mono (by decide)) hr (by rfl) T.g__law_two T.F__law_two.kp T.b__law_two tk (a_cons (d_var (pv 8)) (a_cons (d_var (pv 6)) (a_nil)))))
    (s_cons (s_if (PW.pt (w_or (t_not (d_val (d_call (n := 2) (G__law_alike.mono (by decide)) hr (by rfl) T.g__law_alike T.F__law_alike.kp T.b__law_alike tk (a_cons (d_call (n := 3) (G__law_told.mono (by decide)) hr (by rfl) T.g__law_told T.F__law_told.kp T.b__law_told tk (a_cons (d_int) (a_cons (d_var (pv 8)) (a_cons (d_var (pv 6)) (a_nil))))) (a_cons (d_var (pv 9)) (a_nil)))))) (w_or (PW.pt (w_and (d_cmpT o_isNot D_isNot (d_var (pv 9)) (d_non) (nomark _)) (w_and1 (d_cmpT o_lt D_lt (d_var (pv 9)) (d_op o_div D_div (d_op op_sub D_sub (d_op o_add D_add (d_blt (c_sum rfl) D_sum (by rfl) T.n_sum PyProof.Rows.boot_sum (a_cons (d_var (pv 8)) (a_nil))) (d_var (pv 6))) (d_int)) (d_var (pv 6))) (nomark _))))) (w_or1 (PW.pt (w_and (d_cmpT o_ge D_ge (d_var (pv 6)) (d_blt c_len D_len (by rfl) T.n_len PySem.boot_len (a_cons (d_var (pv 8)) (a_nil))) (nomark _)) (w_and1 (d_cmpT o_gt D_gt (d_var (pv 9)) (d_call (n := 2) (G_fewest_runs.mono (by decide)) hr (by rfl) T.g_fewest_runs T.F_fewest_runs.kp T.b_fewest_runs tk (a_cons (d_var (pv 8)) (a_cons (d_var (pv 6)) (a_nil)))) (nomark _))))))))) (s_one (s_ret (d_bl))) (s_nil))
    (s_cons (s_if (PW.pt (w_or (d_cmpT (op_neP hr.units) D_ne (d_cmp o_is D_is (d_var (pv 9)) (d_non) (nomark _)) (d_cmp o_lt D_lt (d_op o_mul D_mul (d_int) (d_var (pv 6))) (d_blt c_len D_len (by rfl) T.n_len PySem.boot_len (a_cons (d_var (pv 8)) (a_nil))) (nomark _)) (nomark _)) (w_or (d_cmpT (op_neP hr.units) D_ne (d_call (n := 3) (G__law_told.mono (by decide)) hr (by rfl) T.g__law_told T.F__law_told.kp T.b__law_told tk (a_cons (d_int) (a_cons (d_tup (a_cons (d_int) (a_cons (d_int) (a_nil)))) (a_cons (d_int) (a_nil))))) (d_int) (nomark _)) (w_or1 (d_cmpT o_isNot D_isNot (d_call (n := 3) (G__law_told.mono (by decide)) hr (by rfl) T.g__law_told T.F__law_told.kp T.b__law_told tk (a_cons (d_int) (a_cons (d_tup (a_cons (d_int) (a_cons (d_int) (a_cons (d_int) (a_nil))))) (a_cons (d_int) (a_nil))))) (d_non) (nomark _)))))) (s_one (s_ret (d_bl))) (s_nil))
    (s_cons (s_set (i := 10) sc_law.nd rfl (.inl rfl) (d_op o_add D_add (d_op o_add D_add (d_lc (own := [("which", 23), ("bad", 21)]) rfl sc_law.nd (i_seq rfl (d_lst (a_cons (d_tup (a_cons (d_int) (a_cons (d_int) (a_nil)))) (a_cons (d_tup (a_cons (d_int) (a_cons (d_int) (a_nil)))) (a_cons (d_tup (a_cons (d_int) (a_cons (d_int) (a_nil)))) (a_cons (d_tup (a_cons (d_int) (a_cons (d_int) (a_nil)))) (a_nil))))))) (blkOk_by (own := [("which", 23), ("bad", 21)]) (N := N_law) (sc := (defScope s_law)) (by decide +kernel)) (by decide) (fun _ _ _ _ _ _ _ => g_tup rfl rfl (g_cons (g_name (i := 23) sc_law.nd rfl (.inl rfl)) (g_cons (g_name (i := 21) sc_law.nd rfl (.inl rfl)) (g_nil))) rfl) (fun _ _ _ _ _ _ _ => ts_nil) (fun _ _ _ _ _ _ _ => d_call (n := 3) (G__law_told.mono (by decide)) hr (by rfl) T.g__law_told T.F__law_told.kp T.b__law_told takesNo (a_cons (d_var (pv 23)) (a_cons (d_var (pv 3)) (a_cons (d_var (pv 21)) (a_nil)))))) (d_lc (own := [("bad", 21)]) rfl sc_law.nd (i_seq rfl (d_lst (a_cons (d_tup (a_cons (d_int) (a_nil))) (a_cons (d_op o_mul D_mul (d_tup (a_cons (d_int) (a_nil))) (d_int)) (a_nil))))) (blkOk_by (own := [("bad", 21)]) (N := N_law) (sc := (defScope s_law)) (by decide +kernel)) (by decide) (fun _ _ _ _ _ _ _ => g_name (i := 21) sc_law.nd rfl (.inl rfl)) (fun _ _ _ _ _ _ _ => ts_nil) (fun _ _ _ _ _ _ _ => d_call (n := 3) (G__law_told.mono (by decide)) hr (by rfl) T.g__law_told T.F__law_told.kp T.b__law_told takesNo (a_cons (d_int) (a_cons (d_var (pv 21)) (a_cons (d_int) (a_nil))))))) (d_lst (a_cons (d_call (n := 3) (G__law_told.mono (by decide)) hr (by rfl) T.g__law_told T.F__law_told.kp T.b__law_told tk (a_cons (d_int) (a_cons (d_tup (a_cons (d_int) (a_nil))) (a_cons (d_int) (a_nil))))) (a_nil)))))
    (s_cons (s_if (PW.pt (w_or (d_cmpT (op_neP hr.units) D_ne (d_var (pv 10)) (d_op o_mul D_mul (d_lst (a_cons (d_str) (a_nil))) (d_int)) (nomark _)) (w_or1 (d_cmpT (op_neP hr.units) D_ne (d_lc (own := [("bad", 21)]) rfl sc_law.nd (i_seq rfl (d_lst (a_cons (d_op o_mul D_mul (d_tup (a_cons (d_int) (a_nil))) (d_int)) (a_cons (d_tup (a_cons (d_int) (a_nil))) (a_nil))))) (blkOk_by (own := [("bad", 21)]) (N := N_law) (sc := (defScope s_law)) (by decide +kernel)) (by decide) (fun _ _ _ _ _ _ _ => g_name (i := 21) sc_law.nd rfl (.inl rfl)) (fun _ _ _ _ _ _ _ => ts_nil) (fun _ _ _ _ _ _ _ => d_call (n := 3) (G__law_told.mono (by decide)) hr (by rfl) T.g__law_told T.F__law_told.kp T.b__law_told takesNo (a_cons (d_int) (a_cons (d_var (pv 21)) (a_cons (d_int) (a_nil)))))) (d_op o_mul D_mul (d_lst (a_cons (d_str) (a_nil))) (d_int)) (nomark _))))) (s_one (s_ret (d_bl))) (s_nil))
    (s_cons (s_set (i := 11) sc_law.nd rfl (.inl rfl) (d_lst (a_cons (d_non) (a_cons (d_lst (a_cons (d_int) (a_cons (d_int) (a_nil)))) (a_cons (d_tup (a_cons (d_int) (a_nil))) (a_cons (d_tup (a_cons (d_int) (a_cons (d_int) (a_cons (d_int) (a_nil))))) (a_cons (d_tup (a_cons (d_int) (a_cons (d_int) (a_nil)))) (a_cons (d_tup (a_cons (d_neg (d_int)) (a_cons (d_int) (a_nil)))) (a_cons (d_tup (a_cons (d_bl) (a_cons (d_int) (a_nil)))) (a_cons (d_tup (a_cons (d_int) (a_cons (d_non) (a_nil)))) (a_cons (d_tup (a_cons (d_int) (a_cons (d_int) (a_nil)))) (a_nil))))))))))))
    (s_cons (s_if (PW.pt (w_or (d_cmpT (op_neP hr.units) D_ne (d_lc (own := [("value", 20)]) rfl sc_law.nd (i_seq rfl (d_var (pv 11))) (blkOk_by (own := [("value", 20)]) (N := N_law) (sc := (defScope s_law)) (by decide +kernel)) (by decide) (fun _ _ _ _ _ _ _ => g_name (i := 20) sc_law.nd rfl (.inl rfl)) (fun _ _ _ _ _ _ _ => ts_one (t_not (d_val (d_call (n := 2) (G__law_says.mono (by decide)) hr (by rfl) T.g__law_says T.F__law_says.kp T.b__law_says takesNo (a_cons (d_call (n := 3) (G_is_layout.mono (by decide)) hr (by rfl) T.g_is_layout T.F_is_layout.kp T.b_is_layout takesNo (a_cons (d_tup (a_cons (d_int) (a_cons (d_int) (a_nil)))) (a_cons (d_int) (a_cons (d_var (pv 20)) (a_nil))))) (a_cons (d_bl) (a_nil))))))) (fun _ _ _ _ _ _ _ => d_var (pv 20))) (d_lst (a_nil)) (nomark _)) (w_or1 (d_cmpT o_isNot D_isNot (d_call (n := 3) (G_is_layout.mono (by decide)) hr (by rfl) T.g_is_layout T.F_is_layout.kp T.b_is_layout tk (a_cons (d_tup (a_cons (d_int) (a_cons (d_int) (a_nil)))) (a_cons (d_int) (a_cons (d_tup (a_cons (d_int) (a_cons (d_int) (a_nil)))) (a_nil))))) (d_bl) (nomark _))))) (s_one (s_ret (d_bl))) (s_nil))
    (s_cons (s_set (i := 11) sc_law.nd rfl (.inl rfl) (d_lst (a_cons (d_non) (a_cons (d_tup (a_nil)) (a_cons (d_lst (a_cons (d_int) (a_nil))) (a_cons (d_tup (a_cons (d_int) (a_nil))) (a_cons (d_tup (a_cons (d_int) (a_nil))) (a_cons (d_tup (a_cons (d_neg (d_int)) (a_nil))) (a_cons (d_tup (a_cons (d_bl) (a_nil))) (a_cons (d_tup (a_cons (d_non) (a_nil))) (a_cons (d_op o_mul D_mul (d_tup (a_cons (d_int) (a_nil))) (d_int)) (a_nil))))))))))))
    (s_one (s_ret (d_cmp (op_eqP hr.units) D_eq (d_lc (own := [("value", 20)]) rfl sc_law.nd (i_seq rfl (d_var (pv 11))) (blkOk_by (own := [("value", 20)]) (N := N_law) (sc := (defScope s_law)) (by decide +kernel)) (by decide) (fun _ _ _ _ _ _ _ => g_name (i := 20) sc_law.nd rfl (.inl rfl)) (fun _ _ _ _ _ _ _ => ts_one (t_not (d_val (d_call (n := 2) (G__law_says.mono (by decide)) hr (by rfl) T.g__law_says T.F__law_says.kp T.b__law_says takesNo (a_cons (d_call (n := 1) (G_are_orders.mono (by decide)) hr (by rfl) T.g_are_orders T.F_are_orders.kp T.b_are_orders takesNo (a_cons (d_var (pv 20)) (a_nil))) (a_cons (d_bl) (a_nil))))))) (fun _ _ _ _ _ _ _ => d_var (pv 20))) (d_lst (a_nil)) (nomark _))))))))))))))))))))))
end
end K10
end
section
set_option Elab.async false
set_option linter.all false
set_option maxRecDepth 100000
set_option maxHeartbeats 4000000
namespace K10
open PySem L2 Pd
theorem is_number_int (v a b : Int) : fn_is_number [.int v, .int a, .int b] = .ret (.bool (decide (a ≤ v) && decide (v ≤ b))) [] := by
  unfold fn_is_number toFn initE bd_is_number
  simp [inSl, outsOf, ioIx]
  by_cases h : a ≤ v <;> simp [h]
theorem is_number_none (a b : Int) : fn_is_number [.none, .int a, .int b] = .ret (.bool false) [] := by
  unfold fn_is_number toFn initE bd_is_number
  simp [inSl, outsOf, ioIx]
theorem is_number_bool (k : Bool) (a b : Int) : fn_is_number [.bool k, .int a, .int b] = .ret (.bool false) [] := by
  unfold fn_is_number toFn initE bd_is_number
  simp [inSl, outsOf, ioIx]
theorem word_range : fn__law_word "OutOfRange" = .ret (.str "range") [] := by
  unfold fn__law_word toFnX bd__law_word
  simp [eIsE, kn, km, isE, compF, atI, ixN, mIndex, flatD, PyData.eqv, List.findIdx?, List.findIdx?.go]
theorem word_much : fn__law_word "TooMuch" = .ret (.str "much") [] := by
  unfold fn__law_word toFnX bd__law_word
  simp [eIsE, kn, km, isE, compF, atI, ixN, mIndex, flatD, PyData.eqv, List.findIdx?, List.findIdx?.go]
theorem alike_int (x y : Int) : fn__law_alike [.int x, .int y] = .ret (.bool (decide (x = y))) [] := by
  unfold fn__law_alike
  rw [fr__law_alike]
  unfold toFn initE bd__law_alike
  simp [inSl, outsOf, ioIx, fIsN, isNone]
/-! ### draws -/
def DS (d : D) : Prop := ∃ cells : List Int, d = .list (cells.map PyData.int)
theorem take_ok {d : D} (h : DS d) {b : Int} (hb : 0 < b) : ∃ r d', fn__law_take [d, .int b] = .ret (.int r) [d'] ∧ DS d' ∧ 0 ≤ r ∧ r < b := by
  obtain ⟨cells, rfl⟩ := h
  rcases List.eq_nil_or_concat cells with rfl | ⟨cs, c, rfl⟩
  · refine ⟨0, .list [], ?_, ⟨[], rfl⟩, Int.le_refl _, hb⟩
    unfold fn__law_take toFn initE bd__law_take
    simp [inSl, outsOf, ioIx]
  · refine ⟨c % b, .list (cs.map PyData.int), ?_, ⟨cs, rfl⟩, Int.emod_nonneg _ (by omega), Int.emod_lt_of_pos _ hb⟩
    have p : ∀ xs : List D, mPop (.list (xs ++ [.int c])) [] = some (.list xs, .int c) := fun xs => by simp [mPop]
    unfold fn__law_take toFn initE bd__law_take
    have l0 : ¬ ((cs.length : Int) + 1 = 0) := by omega
    simp [inSl, outsOf, ioIx, p, hb, l0]
abbrev drf (cells : List Int) (sc : D) (s2 s3 s4 s5 s6 : Sl) : Pd.Env := [.v sc, .o (.list (cells.map PyData.int)), s2, s3, s4, s5, s6]
theorem ap_int {cells : List Int} {x : Int} (h : cells.length < 16000000) : mAppend (.list (cells.map PyData.int)) [.int x] = some (.list ((cells ++ [x]).map PyData.int), .none) := by
  have ln : lineOk (cells.length + 1) = true := lineOk_s (by omega)
  simp [mAppend, ln]
theorem ap_eq {cells : List Int} {x : Int} (h : cells.length < 16000000) : lineOk (cells.length + 1) = true := lineOk_s (by omega)
theorem dr_inner {sc : D} {s2 s3 s6 : Sl} {cells : List Int} {x : Int} (h : cells.length ≤ 15000000) {s4 : Sl} : ∃ cells' x' s4', cells'.length ≤ cells.length + 60 ∧
    forF (tgN 4) (sIf (eOpT fGt (eVar 5) (eC (.int 0))) (sSeq (sDrop (eMet "list" 1 mAppend (aCons (eOp fMod (eBlt fInt (aCons (eVar 5) (aNil))) (eC (.int 997))) (aNil)))) (sSet 5 (eOp fDiv (eVar 5) (eC (.int 997))))) (sNx)) (rngD 0 60) (drf cells sc s2 s3 s4 (.v (.int x)) s6) = .nx (drf cells' sc s2 s3 s4' (.v (.int x')) s6) := by
  have l := forF_at (g := tgN 4) (S := (sIf (eOpT fGt (eVar 5) (eC (.int 0))) (sSeq (sDrop (eMet "list" 1 mAppend (aCons (eOp fMod (eBlt fInt (aCons (eVar 5) (aNil))) (eC (.int 997))) (aNil)))) (sSet 5 (eOp fDiv (eVar 5) (eC (.int 997))))) (sNx))) (ds := rngD 0 60) (fun i ρ => ∃ cells' x' s4', cells'.length ≤ cells.length + i ∧ ρ = drf cells' sc s2 s3 s4' (.v (.int x')) s6) (by
    rintro i d hd ρ ⟨c, x, s4, hc, rfl⟩
    have hi := get_lt hd
    rw [rngD_len] at hi
    have ln : lineOk (c.length + 1) = true := lineOk_s (by omega)
    by_cases hx : 0 < x
    · exact ⟨_, drf (c ++ [x % 997]) sc s2 s3 (.v d) (.v (.int (x / 997))) s6, rfl, .inl (by simp [hx, mAppend, ln]), _, _, _, by simp; omega, rfl⟩
    · exact ⟨_, drf c sc s2 s3 (.v d) (.v (.int x)) s6, rfl, .inl (by simp [hx]), _, _, _, by omega, rfl⟩) ⟨cells, x, s4, by omega, rfl⟩
  obtain ⟨ρ, h1, c, x', s4', hc, rfl⟩ := l
  exact ⟨c, x', s4', by rw [rngD_len] at hc; exact hc, h1⟩
theorem dr_cell {sc : D} {s3 s4 s5 s6 : Sl} {cells : List Int} {z : Int} (h : cells.length ≤ 14000000) : ∃ cells' s4' s5' s6', cells'.length ≤ cells.length + 62 ∧
    (sSeq (sSet 5 (eBlt fAbs (aCons (eVar 2) (aNil)))) (sSeq (sIf (eOpT fLt (eVar 5) (eOp fPow (eC (.int 10)) (eC (.int 18)))) (sSeq (sSet 6 (eOp fMod (eBlt fInt (aCons (eOp fAdd (eOp fMul (eVar 5) (eC (.int 48271))) (eC (.int 11))) (aNil))) (eC (.int 2147483647)))) (sSeq (sDrop (eMet "list" 1 mAppend (aCons (eOp fMod (eBlt fInt (aCons (eOp fAdd (eOp fMul (eVar 6) (eC (.int 69621))) (eVar 5)) (aNil))) (eC (.int 2147483629))) (aNil)))) (sSeq (sDrop (eMet "list" 1 mAppend (aCons (eOp fMod (eBlt fInt (aCons (eOp fAdd (eVar 6) (eOp fDiv (eVar 5) (eC (.int 7)))) (aNil))) (eC (.int 1000003))) (aNil)))) (sSet 5 (eC (.int 0)))))) (sNx)) (sFor (iRange rng1 (aCons (eC (.int 60)) (aNil))) (tgN 4) (sIf (eOpT fGt (eVar 5) (eC (.int 0))) (sSeq (sDrop (eMet "list" 1 mAppend (aCons (eOp fMod (eBlt fInt (aCons (eVar 5) (aNil))) (eC (.int 997))) (aNil)))) (sSet 5 (eOp fDiv (eVar 5) (eC (.int 997))))) (sNx))))) (drf cells sc (.v (.int z)) s3 s4 s5 s6) = .nx (drf cells' sc (.v (.int z)) s3 s4' s5' s6') := by
  have rg : rngOk 60 = true := rngOk_s (by decide) (by decide)
  obtain ⟨y, hy⟩ : ∃ y, y = if z < 0 then -z else z := ⟨_, rfl⟩
  by_cases hx : y < 1000000000000000000
  · obtain ⟨c, x, t4, hc, hf⟩ := dr_inner (sc := sc) (s2 := .v (.int z)) (s3 := s3) (s4 := s4) (s6 := .v (.int ((y * 48271 + 11) % 2147483647))) (cells := cells ++ [((y * 48271 + 11) % 2147483647 * 69621 + y) % 2147483629] ++ [((y * 48271 + 11) % 2147483647 + y / 7) % 1000003]) (x := 0) (by simp; omega)
    refine ⟨c, t4, .v (.int x), .v (.int ((y * 48271 + 11) % 2147483647)), by simp at hc; omega, ?_⟩
    have ln : lineOk (cells.length + 1) = true := lineOk_s (by omega)
    have ln2 : lineOk (cells.length + 1 + 1) = true := lineOk_s (by omega)
    simp [drf] at hf
    simp [← hy, hx, mAppend, ln, ln2, rg]
    exact hf
  · obtain ⟨c, x, t4, hc, hf⟩ := dr_inner (sc := sc) (s2 := .v (.int z)) (s3 := s3) (s4 := s4) (s6 := s6) (cells := cells) (x := y) (by omega)
    refine ⟨c, t4, .v (.int x), s6, by omega, ?_⟩
    simp [drf] at hf
    simp [← hy, hx, rg]
    exact hf
theorem dr_seed {sc : D} {s2 s4 s5 s6 : Sl} {cells : List Int} {x : Int} (h : cells.length ≤ 14000000) : ∃ cells' x' s4', cells'.length ≤ cells.length + 900 ∧
    forF (tgN 4) (sSeq (sSet 3 (eOp fMod (eBlt fInt (aCons (eOp fAdd (eOp fMul (eVar 3) (eC (.int 48271))) (eC (.int 69621))) (aNil))) (eC (.int 2147483647)))) (sDrop (eMet "list" 1 mAppend (aCons (eOp fDiv (eVar 3) (eC (.int 5))) (aNil))))) (rngD 0 900) (drf cells sc s2 (.v (.int x)) s4 s5 s6) = .nx (drf cells' sc s2 (.v (.int x')) s4' s5 s6) := by
  have l := forF_at (g := tgN 4) (S := (sSeq (sSet 3 (eOp fMod (eBlt fInt (aCons (eOp fAdd (eOp fMul (eVar 3) (eC (.int 48271))) (eC (.int 69621))) (aNil))) (eC (.int 2147483647)))) (sDrop (eMet "list" 1 mAppend (aCons (eOp fDiv (eVar 3) (eC (.int 5))) (aNil)))))) (ds := rngD 0 900) (fun i ρ => ∃ cells' x' s4', cells'.length ≤ cells.length + i ∧ ρ = drf cells' sc s2 (.v (.int x')) s4' s5 s6) (by
    rintro i d hd ρ ⟨c, x, s4, hc, rfl⟩
    have hi := get_lt hd
    rw [rngD_len] at hi
    have ln : lineOk (c.length + 1) = true := lineOk_s (by omega)
    exact ⟨_, drf (c ++ [(x * 48271 + 69621) % 2147483647 / 5]) sc s2 (.v (.int ((x * 48271 + 69621) % 2147483647))) (.v d) s5 s6, rfl, .inl (by simp [mAppend, ln]), _, _, _, by simp; omega, rfl⟩) ⟨cells, x, s4, by omega, rfl⟩
  obtain ⟨ρ, h1, c, x', s4', hc, rfl⟩ := l
  exact ⟨c, x', s4', by rw [rngD_len] at hc; exact hc, h1⟩
theorem draws_ok {ns : List Int} (h : ns.length ≤ 63) : ∃ d, fn__law_draws [scrD (ns.map PyData.int)] = .own d [] ∧ DS d := by
  have l := forF_at (g := tgN 2) (S := (sSeq (sSet 5 (eBlt fAbs (aCons (eVar 2) (aNil)))) (sSeq (sIf (eOpT fLt (eVar 5) (eOp fPow (eC (.int 10)) (eC (.int 18)))) (sSeq (sSet 6 (eOp fMod (eBlt fInt (aCons (eOp fAdd (eOp fMul (eVar 5) (eC (.int 48271))) (eC (.int 11))) (aNil))) (eC (.int 2147483647)))) (sSeq (sDrop (eMet "list" 1 mAppend (aCons (eOp fMod (eBlt fInt (aCons (eOp fAdd (eOp fMul (eVar 6) (eC (.int 69621))) (eVar 5)) (aNil))) (eC (.int 2147483629))) (aNil)))) (sSeq (sDrop (eMet "list" 1 mAppend (aCons (eOp fMod (eBlt fInt (aCons (eOp fAdd (eVar 6) (eOp fDiv (eVar 5) (eC (.int 7)))) (aNil))) (eC (.int 1000003))) (aNil)))) (sSet 5 (eC (.int 0)))))) (sNx)) (sFor (iRange rng1 (aCons (eC (.int 60)) (aNil))) (tgN 4) (sIf (eOpT fGt (eVar 5) (eC (.int 0))) (sSeq (sDrop (eMet "list" 1 mAppend (aCons (eOp fMod (eBlt fInt (aCons (eVar 5) (aNil))) (eC (.int 997))) (aNil)))) (sSet 5 (eOp fDiv (eVar 5) (eC (.int 997))))) (sNx)))))) (ds := ns.map PyData.int) (fun i ρ => ∃ c s2 s4 s5 s6, c.length ≤ 62 * i ∧ ρ = drf c (scrD (ns.map PyData.int)) s2 .u s4 s5 s6) (by
    rintro i d hd ρ ⟨c, s2, s4, s5, s6, hc, rfl⟩
    have hi := get_lt hd
    rw [List.length_map] at hi
    rw [List.getElem?_map, Option.map_eq_some_iff] at hd
    obtain ⟨z, _, rfl⟩ := hd
    obtain ⟨c', t4, t5, t6, hc', e⟩ := dr_cell (sc := scrD (ns.map PyData.int)) (s3 := .u) (s4 := s4) (s5 := s5) (s6 := s6) (z := z) (cells := c) (by omega)
    exact ⟨_, _, rfl, .inl e, c', _, t4, t5, t6, by omega, rfl⟩) (ρ := drf [] (scrD (ns.map PyData.int)) .u .u .u .u .u) ⟨[], _, _, _, _, by simp, rfl⟩
  obtain ⟨ρ, h1, c, s2, s4, s5, s6, hc, rfl⟩ := l
  rw [List.length_map] at hc
  have rg : rngOk 900 = true := rngOk_s (by decide) (by decide)
  cases ns with
  | nil =>
    obtain ⟨c', x', t4, hc', e⟩ := dr_seed (sc := scrD []) (s2 := s2) (s4 := s4) (s5 := s5) (s6 := s6) (cells := c) (x := 1) (by have := Nat.mul_le_mul_left 62 h; omega)
    refine ⟨.list (c'.reverse.map PyData.int), ?_, c'.reverse, rfl⟩
    unfold fn__law_draws toFn initE bd__law_draws
    simp [drf] at h1
    simp [inSl, outsOf, ioIx, scrOf, rg, fLen]
    rw [h1]
    simp [scrOf, rg, fLen]
    rw [e]
    simp
  | cons n ns =>
    obtain ⟨c', x', t4, hc', e⟩ := dr_seed (sc := scrD ((n :: ns).map PyData.int)) (s2 := s2) (s4 := s4) (s5 := s5) (s6 := s6) (cells := c) (x := 1 + if n < 0 then -n else n) (by omega)
    refine ⟨.list (c'.reverse.map PyData.int), ?_, c'.reverse, rfl⟩
    have gt : (0 : Int) < (ns.length : Int) + 1 := by omega
    have a0 : atI (PyData.int n :: ns.map PyData.int) 0 = some (.int n) := by simp [atI, ixN]
    unfold fn__law_draws toFn initE bd__law_draws
    simp [drf] at h1 e
    simp [inSl, outsOf, ioIx, scrOf, rg, fLen]
    rw [h1]
    simp [scrOf, rg, fLen, gt, fIx, a0]
    rw [e]
    simp
end K10
end
section
set_option Elab.async false
set_option linter.all false
set_option maxRecDepth 100000
set_option maxHeartbeats 4000000
namespace K10
open PySem L2 Pd
/-- a loop over a list, by what is behind -/
theorem forF_map {α : Type} {t : Tg} {S : Sv} (f : α → D) {xs : List α} (I : List α → Pd.Env → Prop) (h : ∀ pre x post, xs = pre ++ x :: post → ∀ ρ, I pre ρ → ∃ ρ1 ρ2, t (f x) ρ = some ρ1 ∧ (S ρ1 = .nx ρ2 ∨ S ρ1 = .ct ρ2) ∧ I (pre ++ [x]) ρ2) {ρ : Pd.Env} (h0 : I [] ρ) : ∃ ρ', forF t S (xs.map f) ρ = .nx ρ' ∧ I xs ρ' := by
  have go : ∀ (ys pre : List α), xs = pre ++ ys → ∀ ρ, I pre ρ → ∃ ρ', forF t S (ys.map f) ρ = .nx ρ' ∧ I xs ρ' := by
    intro ys
    induction ys with
    | nil =>
      intro pre e ρ hi
      rw [List.append_nil] at e
      exact ⟨ρ, rfl, e ▸ hi⟩
    | cons y ys ih =>
      intro pre e ρ hi
      obtain ⟨ρ1, ρ2, h1, h2, h3⟩ := h pre y ys e ρ hi
      obtain ⟨ρ', h4, h5⟩ := ih (pre ++ [y]) (by rw [e, List.append_assoc]; rfl) ρ2 h3
      refine ⟨ρ', ?_, h5⟩
      rw [List.map_cons, forF, h1]
      rcases h2 with h2 | h2 <;> simp only [h2, h4]
  exact go xs [] rfl ρ h0
theorem compF_all {α : Type} {vs : List Nat} {g : Tg} {e : Ev} {ρ : Pd.Env} (f h : α → D) (xs : List α) (hx : ∀ x ∈ xs, ∃ ρ1 r ρ2 ρ3, g (f x) ρ = some ρ1 ∧ e ρ1 = .ok r ρ2 ∧ frzR ρ2 r = some (h x, ρ3) ∧ wipeE ρ3 vs = ρ) : compF vs g tTrue e (xs.map f) ρ = some (xs.map h, ρ) := by
  have cf := compF_map (vs := vs) (g := g) (c := tTrue) (e := e) (ρ := ρ) f (fun _ => true) h xs (fun x hx' => by
    obtain ⟨ρ1, r, ρ2, ρ3, h1, h2, h3, h4⟩ := hx x hx'
    exact ⟨ρ1, h1, ρ1, rfl, fun z => Bool.noConfusion z, fun _ => ⟨r, ρ2, ρ3, h2, h3, h4⟩⟩)
  rw [List.filter_eq_self.mpr (fun _ _ => rfl)] at cf
  exact cf
def iD (xs : List Int) : D := .tuple (xs.map PyData.int)
theorem asInts_m (xs : List Int) : asInts (xs.map PyData.int) = some xs := by
  have := asInts_of (fun x : Int => x) xs
  simpa using this
theorem sum_t (xs : List Int) : fSum [.tuple (xs.map PyData.int)] = some (.v (.int xs.sum)) := by
  simp only [fSum, asInts_m]
theorem sum_l (xs : List Int) : fSum [.list (xs.map PyData.int)] = some (.v (.int xs.sum)) := by
  simp only [fSum, asInts_m]
theorem len_iD (xs : List Int) : fLen [iD xs] = some (.v (.int xs.length)) := by
  have : (xs.map PyData.int).length = xs.length := List.length_map _
  rw [← this]
  rfl
theorem at_map {xs : List Int} {k : Nat} (h : k < xs.length) : atI (xs.map PyData.int) (k : Int) = some (.int (xs.getD k 0)) := by
  refine atI_k ?_
  rw [List.getElem?_map, List.getElem?_eq_getElem h, List.getD_eq_getElem?_getD, List.getElem?_eq_getElem h]
  rfl
theorem rng_n (n : Nat) : rngD 0 n = (List.range n).map fun (k : Nat) => PyData.int (k : Int) := by
  unfold rngD
  exact List.map_congr_left fun k _ => by simp
/-! ### layouts -/
def nxt (places : Nat) (row : List Int) : List (List Int) := (List.range ((places : Int) - row.sum + 1).toNat).map fun k : Nat => row ++ [(k : Int)]
def lay (places : Nat) : Nat → List (List Int)
  | 0 => [[]]
  | m + 1 => (lay places m).flatMap (nxt places)
theorem sum_snoc (xs : List Int) (x : Int) : (xs ++ [x]).sum = xs.sum + x := by simp
theorem lay_mem {places : Nat} : ∀ {m : Nat} {row : List Int}, row ∈ lay places m ↔ row.length = m ∧ (∀ x ∈ row, 0 ≤ x) ∧ row.sum ≤ places
  | 0, row => by
    rw [lay, List.mem_singleton]
    constructor
    · rintro rfl
      exact ⟨rfl, by simp, by simp⟩
    · exact fun h => List.eq_nil_of_length_eq_zero h.1
  | m + 1, row => by
    rw [lay, List.mem_flatMap]
    constructor
    · rintro ⟨r, hr, h⟩
      obtain ⟨h1, h2, h3⟩ := lay_mem.mp hr
      unfold nxt at h
      obtain ⟨k, hk, rfl⟩ := List.mem_map.mp h
      have hk := List.mem_range.mp hk
      refine ⟨by simp [h1], fun x hx => ?_, by rw [sum_snoc]; omega⟩
      rcases List.mem_append.mp hx with q | q
      · exact h2 x q
      · rw [List.mem_singleton.mp q]
        omega
    · rintro ⟨h1, h2, h3⟩
      have hn : row ≠ [] := fun e => by rw [e] at h1; simp at h1
      have e := (List.dropLast_concat_getLast hn).symm
      generalize row.dropLast = r at *
      generalize row.getLast hn = x at *
      have hx : 0 ≤ x := h2 x (by rw [e]; simp)
      have hs : row.sum = r.sum + x := by rw [e, sum_snoc]
      refine ⟨r, lay_mem.mpr ⟨by rw [e] at h1; simpa using h1, fun y hy => h2 y (by rw [e]; simp [hy]), by omega⟩, ?_⟩
      unfold nxt
      exact List.mem_map.mpr ⟨x.toNat, List.mem_range.mpr (by omega), by rw [e]; congr; omega⟩
theorem nxt_len {places : Nat} {row : List Int} (h : 0 ≤ row.sum) : (nxt places row).length ≤ places + 1 := by
  unfold nxt
  rw [List.length_map, List.length_range]
  omega
theorem sum_nn {xs : List Int} (h : ∀ x ∈ xs, 0 ≤ x) : 0 ≤ xs.sum := by
  induction xs with
  | nil => simp
  | cons x xs ih =>
    have := ih fun y hy => h y (List.mem_cons_of_mem _ hy)
    have := h x (List.mem_cons_self ..)
    rw [List.sum_cons]
    omega
theorem fm_len {places : Nat} : ∀ {rows : List (List Int)}, (∀ r ∈ rows, 0 ≤ r.sum) → (rows.flatMap (nxt places)).length ≤ (places + 1) * rows.length
  | [], _ => by simp
  | r :: rows, h => by
    have := fm_len (places := places) fun r hr => h r (List.mem_cons_of_mem _ hr)
    have := nxt_len (places := places) (h r (List.mem_cons_self ..))
    rw [List.flatMap_cons, List.length_append, List.length_cons, Nat.mul_succ]
    omega
theorem lay_nn {places m : Nat} {row : List Int} (h : row ∈ lay places m) : 0 ≤ row.sum := sum_nn (lay_mem.mp h).2.1
theorem lay_len {places : Nat} : ∀ m, (lay places m).length ≤ (places + 1) ^ m
  | 0 => by simp [lay]
  | m + 1 => by
    have h1 := lay_len (places := places) m
    have h2 := fm_len (places := places) (rows := lay places m) fun r hr => lay_nn hr
    have h3 := Nat.mul_le_mul_left (places + 1) h1
    rw [lay, Nat.pow_succ, Nat.mul_comm ((places + 1) ^ m)]
    omega
theorem lay_9 {places m : Nat} (h : places ≤ 12) (h2 : m ≤ 4) : (lay places m).length ≤ 28561 := by
  have h1 := lay_len (places := places) m
  have : (places + 1) ^ m ≤ 13 ^ 4 := Nat.le_trans (Nat.pow_le_pow_left (by omega) m) (Nat.pow_le_pow_right (by decide) h2)
  omega
theorem iD_put (row : List Int) (x : Int) : iD (row ++ [x]) = .tuple (row.map PyData.int ++ [.int x]) := by
  unfold iD
  rw [List.map_append]
  rfl
abbrev lf (m places : Nat) (found a later row one : Sl) : Pd.Env := [.v (.int m), .v (.int places), found, a, later, row, one]
theorem layouts_l {m places : Nat} (h1 : 1 ≤ m) (hm : m ≤ 4) (hp : places ≤ 12) : fn__law_layouts [.int m, .int places] = .ret (.list ((lay places m).map iD)) [] := by
  have rg : rngOk (m : Int) = true := rngOk_s (by omega) (by omega)
  have l1 : lineOk 1 = true := lineOk_s (by decide)
  obtain ⟨ρ, l, sl, a, later, row, one, hs, rfl⟩ := forF_tab (t := tgN 3) (S := sSeq (sSet 4 (eLst (aNil))) (sSeq (sFor (iSeq (eVar 2)) (tgN 5) (sSet 4 (eOp fAdd (eVar 4) (eLc [6] (tgN 6) (tTrue) (eOp fAdd (eVar 5) (eTup (aCons (eVar 6) (aNil)))) (iRange rng1 (aCons (eOp fAdd (eOp fSub (eVar 1) (eBlt fSum (aCons (eVar 5) (aNil)))) (eC (.int 1))) (aNil))))))) (sSet 2 (eVar 4)))) (f := fun j => PyData.int (0 + (j : Nat))) (n := m) (fun i ρ => ∃ (sl a later row one : Sl), ((0 < i ∧ sl = .v (.list ((lay places i).map iD))) ∨ (i = 0 ∧ sl = .o (.list ((lay places i).map iD)))) ∧ ρ = lf m places sl a later row one) (by
    rintro i hi ρ ⟨sl, a, later, row, one, hs, rfl⟩
    have lo := lay_9 (m := i) hp (by omega)
    obtain ⟨ρ2, l2, row', one', rfl⟩ := forF_map (t := tgN 5) (S := sSet 4 (eOp fAdd (eVar 4) (eLc [6] (tgN 6) (tTrue) (eOp fAdd (eVar 5) (eTup (aCons (eVar 6) (aNil)))) (iRange rng1 (aCons (eOp fAdd (eOp fSub (eVar 1) (eBlt fSum (aCons (eVar 5) (aNil)))) (eC (.int 1))) (aNil)))))) iD (xs := lay places i) (fun pre ρ => ∃ row one, ρ = lf m places (.v (.list ((lay places i).map iD))) (.v (.int (0 + (i : Nat)))) (.o (.list ((pre.flatMap (nxt places)).map iD))) row one) (by
      rintro pre x post e ρ ⟨row, one, rfl⟩
      obtain ⟨x1, x2, x3⟩ := lay_mem.mp (show x ∈ lay places i by rw [e]; simp)
      have x4 := sum_nn x2
      have st := sum_t x
      have c := compF_all (vs := [6]) (g := tgN 6) (e := eOp fAdd (eVar 5) (eTup (aCons (eVar 6) (aNil)))) (ρ := lf m places (.v (.list ((lay places i).map iD))) (.v (.int (0 + (i : Nat)))) (.o (.list ((pre.flatMap (nxt places)).map iD))) (.v (iD x)) .u) (fun k : Nat => PyData.int (k : Int)) (fun k : Nat => iD (x ++ [(k : Int)])) (List.range ((places : Int) - x.sum + 1).toNat) (fun k _ => by
        have ln : lineOk (x.length + 1) = true := lineOk_s (by omega)
        have lx : (x.map PyData.int).length = x.length := List.length_map _
        refine ⟨lf m places (.v (.list ((lay places i).map iD))) (.v (.int (0 + (i : Nat)))) (.o (.list ((pre.flatMap (nxt places)).map iD))) (.v (iD x)) (.v (.int k)), .v (iD (x ++ [(k : Int)])), lf m places (.v (.list ((lay places i).map iD))) (.v (.int (0 + (i : Nat)))) (.o (.list ((pre.flatMap (nxt places)).map iD))) (.v (iD x)) (.v (.int k)), lf m places (.v (.list ((lay places i).map iD))) (.v (.int (0 + (i : Nat)))) (.o (.list ((pre.flatMap (nxt places)).map iD))) (.v (iD x)) (.v (.int k)), rfl, ?_, rfl, rfl⟩
        rw [iD_put]
        have ex : iD x = .tuple (x.map PyData.int) := rfl
        rw [ex]
        generalize (lay places i).map iD = R
        generalize (pre.flatMap (nxt places)).map iD = Q
        generalize x.map PyData.int = X at *
        unfold lf
        simp [lx, ln, l1])
      rw [← rng_n] at c
      have f1 := fm_len (places := places) (rows := pre) fun r hr => lay_nn (m := i) (by rw [e]; simp [hr])
      have f2 := nxt_len (places := places) x4
      have f3 : pre.length ≤ (lay places i).length := by rw [e]; simp
      have f4 : (places + 1) * pre.length ≤ 13 * 28561 := Nat.mul_le_mul (by omega) (by omega)
      have n3 : lineOk ((pre.flatMap (nxt places)).length + (nxt places x).length) = true := lineOk_s (by omega)
      have r2 : rngOk ((places : Int) - x.sum + 1) = true := rngOk_s (by omega) (by omega)
      have ln2 : lineOk ((places : Int) - x.sum + 1).toNat = true := lineOk_s (by omega)
      have en : (List.range ((places : Int) - x.sum + 1).toNat).map (fun k : Nat => iD (x ++ [(k : Int)])) = (nxt places x).map iD := by
        unfold nxt
        rw [List.map_map]
        rfl
      rw [en] at c
      refine ⟨lf m places (.v (.list ((lay places i).map iD))) (.v (.int (0 + (i : Nat)))) (.o (.list ((pre.flatMap (nxt places)).map iD))) (.v (iD x)) one, lf m places (.v (.list ((lay places i).map iD))) (.v (.int (0 + (i : Nat)))) (.o (.list (((pre ++ [x]).flatMap (nxt places)).map iD))) (.v (iD x)) (backS (some one)), rfl, .inl ?_, .v (iD x), _, rfl⟩
      rw [List.flatMap_append, List.map_append, List.flatMap_singleton]
      have ex : iD x = .tuple (x.map PyData.int) := rfl
      rw [ex] at c ⊢
      generalize pre.flatMap (nxt places) = L0 at *
      generalize nxt places x = L1 at *
      generalize (lay places i).map iD = R at *
      generalize (0 : Int) + (i : Nat) = z at *
      generalize x.map PyData.int = X at *
      generalize x.sum = sx at *
      unfold lf at *
      simp [st, r2, ln2]
      rw [c]
      simp [n3]) (ρ := lf m places (.v (.list ((lay places i).map iD))) (.v (.int (0 + (i : Nat)))) (.o (.list [])) row one) ⟨row, one, rfl⟩
    have l0 : lineOk 0 = true := lineOk_s (by decide)
    refine ⟨lf m places sl (.v (.int (0 + (i : Nat)))) later row one, lf m places (.v (.list ((lay places (i + 1)).map iD))) (.v (.int (0 + (i : Nat)))) (.v (.list ((lay places (i + 1)).map iD))) row' one', rfl, .inl ?_, _, _, _, _, _, .inl ⟨Nat.succ_pos i, rfl⟩, rfl⟩
    rw [lay]
    generalize ((lay places i).flatMap (nxt places)).map iD = R2 at *
    generalize (lay places i).map iD = R at *
    generalize (0 : Int) + (i : Nat) = z at *
    unfold lf at *
    rcases hs with ⟨_, rfl⟩ | ⟨_, rfl⟩
    · simp [l0]
      rw [l2]
      simp
    · simp [l0]
      rw [l2]
      simp) (ρ := lf m places (.o (.list [iD []])) .u .u .u .u) ⟨_, _, _, _, _, .inr ⟨rfl, rfl⟩, rfl⟩
  rw [← rng_tab] at l
  unfold fn__law_layouts toFn initE bd__law_layouts
  generalize (lay places m).map iD = R at *
  unfold lf iD at l
  simp at l
  simp [inSl, outsOf, ioIx, rg, l1]
  rw [l]
  rcases hs with ⟨_, rfl⟩ | ⟨z, _⟩
  · simp
  · omega
end K10
end
section
set_option Elab.async false
set_option linter.all false
set_option maxRecDepth 100000
set_option maxHeartbeats 4000000
namespace K10
open PySem L2 Pd
abbrev af (m places : Nat) (found a row one : Sl) : Pd.Env := [.v (.int m), .v (.int places), found, a, row, one]
theorem layouts_p {m places : Nat} (hm : m ≤ 4) (hp : places ≤ 12) : fn_all_layouts [.int m, .int places] = .own (.list ((lay places m).map iD)) [] := by
  have rg : rngOk (m : Int) = true := rngOk_s (by omega) (by omega)
  have l1 : lineOk 1 = true := lineOk_s (by decide)
  obtain ⟨ρ, l, a, row, one, rfl⟩ := forF_tab (t := tgN 3) (S := (sSet 2 (eLc2 [4, 5] (tgN 4) (tTrue) (iRange rng1 (aCons (eOp fAdd (eOp fSub (eVar 1) (eBlt fSum (aCons (eVar 4) (aNil)))) (eC (.int 1))) (aNil))) [5] (tgN 5) (tTrue) (eTup (aStar (eVar 4) (aCons (eVar 5) (aNil)))) (iSeq (eVar 2))))) (f := fun j => PyData.int (0 + (j : Nat))) (n := m) (fun i ρ => ∃ (a row one : Sl), ρ = af m places (.o (.list ((lay places i).map iD))) a row one) (by
    rintro i hi ρ ⟨a, row, one, rfl⟩
    have lo := lay_9 (m := i) hp (by omega)
    have lo2 := lay_9 (m := i + 1) hp (by omega)
    have cf := compF2_map (α := List Int) (β := Nat) (vs := [4, 5]) (vs1 := [5]) (u := tgN 4) (u1 := tgN 5) (i1 := (iRange rng1 (aCons (eOp fAdd (eOp fSub (eVar 1) (eBlt fSum (aCons (eVar 4) (aNil)))) (eC (.int 1))) (aNil)))) (c1 := tTrue) (e := (eTup (aStar (eVar 4) (aCons (eVar 5) (aNil))))) (ρ := af m places (.v (.list ((lay places i).map iD))) (.v (.int (0 + (i : Nat)))) .u .u) iD (fun x => rngD 0 ((places : Int) - x.sum + 1).toNat) (fun x => (nxt places x).map iD) (lay places i) (fun x hx => by
      obtain ⟨x1, x2, x3⟩ := lay_mem.mp hx
      have x4 := sum_nn x2
      have st := sum_t x
      have r2 : rngOk ((places : Int) - x.sum + 1) = true := rngOk_s (by omega) (by omega)
      have c := compF_all (vs := [5]) (g := tgN 5) (e := (eTup (aStar (eVar 4) (aCons (eVar 5) (aNil))))) (ρ := af m places (.v (.list ((lay places i).map iD))) (.v (.int (0 + (i : Nat)))) (.v (iD x)) .u) (fun k : Nat => PyData.int (k : Int)) (fun k : Nat => iD (x ++ [(k : Int)])) (List.range ((places : Int) - x.sum + 1).toNat) (fun k _ => by
        have ln : lineOk (x.length + 1) = true := lineOk_s (by omega)
        have lx : (x.map PyData.int).length = x.length := List.length_map _
        refine ⟨af m places (.v (.list ((lay places i).map iD))) (.v (.int (0 + (i : Nat)))) (.v (iD x)) (.v (.int k)), .v (iD (x ++ [(k : Int)])), af m places (.v (.list ((lay places i).map iD))) (.v (.int (0 + (i : Nat)))) (.v (iD x)) (.v (.int k)), af m places (.v (.list ((lay places i).map iD))) (.v (.int (0 + (i : Nat)))) (.v (iD x)) (.v (.int k)), rfl, ?_, rfl, rfl⟩
        rw [iD_put]
        have ex : iD x = .tuple (x.map PyData.int) := rfl
        rw [ex]
        generalize (lay places i).map iD = R
        generalize x.map PyData.int = X at *
        unfold af
        simp [frzR, frzs, lx, ln])
      rw [← rng_n] at c
      have en : (List.range ((places : Int) - x.sum + 1).toNat).map (fun k : Nat => iD (x ++ [(k : Int)])) = (nxt places x).map iD := by
        unfold nxt
        rw [List.map_map]
        rfl
      rw [en] at c
      refine ⟨af m places (.v (.list ((lay places i).map iD))) (.v (.int (0 + (i : Nat)))) (.v (iD x)) .u, af m places (.v (.list ((lay places i).map iD))) (.v (.int (0 + (i : Nat)))) (.v (iD x)) .u, af m places (.v (.list ((lay places i).map iD))) (.v (.int (0 + (i : Nat)))) (.v (iD x)) .u, rfl, ?_, c, rfl⟩
      have ex : iD x = .tuple (x.map PyData.int) := rfl
      rw [ex]
      generalize (lay places i).map iD = R
      generalize x.map PyData.int = X at *
      unfold af
      simp [st, r2])
    have ef : ((lay places i).map fun x => (nxt places x).map iD).flatten = (lay places (i + 1)).map iD := by
      rw [lay, List.map_flatMap, List.flatMap_def]
    rw [ef] at cf
    have lR : lineOk ((lay places (i + 1)).map iD).length = true := by rw [List.length_map]; exact lineOk_s (by omega)
    refine ⟨af m places (.o (.list ((lay places i).map iD))) (.v (.int (0 + (i : Nat)))) row one, af m places (.o (.list ((lay places (i + 1)).map iD))) (.v (.int (0 + (i : Nat)))) (backS (some row)) (backS (some one)), rfl, .inl ?_, _, _, _, rfl⟩
    generalize (lay places (i + 1)).map iD = R2 at *
    generalize (lay places i).map iD = R at *
    generalize (0 : Int) + (i : Nat) = z at *
    unfold af at *
    simp
    rw [cf]
    simp [lR]) (ρ := af m places (.o (.list [iD []])) .u .u .u) ⟨_, _, _, rfl⟩
  rw [← rng_tab] at l
  unfold fn_all_layouts toFn initE bd_all_layouts
  generalize (lay places m).map iD = R at *
  unfold af iD at l
  simp at l
  simp [inSl, outsOf, ioIx, rg, l1]
  rw [l]
  simp
/-! ### runs -/
def cdiv (o l : Int) : Int := (o + l - 1) / l
theorem cd_eq {o l : Int} (h : 0 < l) : o / l + (if o / l * l < o then 1 else 0) = cdiv o l := by
  have a1 := Int.emod_add_mul_ediv o l
  have a2 := Int.emod_nonneg o (show l ≠ 0 by omega)
  have a3 := Int.emod_lt_of_pos o h
  have b1 := Int.emod_add_mul_ediv (o + l - 1) l
  have b2 := Int.emod_nonneg (o + l - 1) (show l ≠ 0 by omega)
  have b3 := Int.emod_lt_of_pos (o + l - 1) h
  unfold cdiv
  rw [Int.mul_comm (o / l)]
  generalize o / l = u at *
  generalize (o + l - 1) / l = v at *
  generalize o % l = r at *
  generalize (o + l - 1) % l = t at *
  have e1 : l * (v - u) = l * v - l * u := by grind
  split
  · rcases Int.lt_trichotomy (v - u) 1 with c | c | c
    · have : l * (v - u) ≤ l * 0 := Int.mul_le_mul_of_nonneg_left (by omega) (by omega)
      omega
    · omega
    · have : l * 2 ≤ l * (v - u) := Int.mul_le_mul_of_nonneg_left (by omega) (by omega)
      omega
  · rcases Int.lt_trichotomy (v - u) 0 with c | c | c
    · have : l * (v - u) ≤ l * (-1) := Int.mul_le_mul_of_nonneg_left (by omega) (by omega)
      omega
    · omega
    · have : l * 1 ≤ l * (v - u) := Int.mul_le_mul_of_nonneg_left (by omega) (by omega)
      omega
/-- so many runs do -/
theorem cd_le {o l r : Int} (h : 0 < l) : cdiv o l ≤ r ↔ o ≤ r * l := by
  have b1 := Int.emod_add_mul_ediv (o + l - 1) l
  have b2 := Int.emod_nonneg (o + l - 1) (show l ≠ 0 by omega)
  have b3 := Int.emod_lt_of_pos (o + l - 1) h
  unfold cdiv
  generalize (o + l - 1) / l = v at *
  generalize (o + l - 1) % l = t at *
  have e1 : l * (v - r) = l * v - r * l := by grind
  constructor
  · intro c
    have : l * (v - r) ≤ l * 0 := Int.mul_le_mul_of_nonneg_left (by omega) (by omega)
    omega
  · intro c
    by_cases d : v ≤ r
    · exact d
    · have : l * 1 ≤ l * (v - r) := Int.mul_le_mul_of_nonneg_left (by omega) (by omega)
      omega
def mxl : List Int → Int
  | [] => 0
  | x :: xs => mostI x xs
theorem mxl_le {xs : List Int} {x : Int} (h : x ∈ xs) : x ≤ mxl xs := by
  cases xs with
  | nil => cases h
  | cons y ys =>
    have l := mostI_le ys y
    rcases List.mem_cons.mp h with rfl | h
    · exact l.1
    · exact l.2 x h
theorem mxl_mem {xs : List Int} (h : xs ≠ []) : mxl xs ∈ xs := by
  cases xs with
  | nil => exact absurd rfl h
  | cons y ys => exact mostI_mem ys y
theorem max_l {xs : List Int} (h : xs ≠ []) : fMax [.list (xs.map PyData.int)] = some (.v (.int (mxl xs))) := by
  cases xs with
  | nil => exact absurd rfl h
  | cons y ys => simp only [fMax, asInts_m]; rfl
theorem max_t {xs : List Int} (h : xs ≠ []) : fMax [.tuple (xs.map PyData.int)] = some (.v (.int (mxl xs))) := by
  cases xs with
  | nil => exact absurd rfl h
  | cons y ys => simp only [fMax, asInts_m]; rfl
def cs (os row : List Int) : List Int := (List.range os.length).map fun k => cdiv (os.getD k 0) (row.getD k 0)
def rn (os row : List Int) : Int := mxl (cs os row)
theorem cs_ne {os row : List Int} (h : 0 < os.length) : cs os row ≠ [] := fun e => by
  have : (cs os row).length = os.length := by simp [cs]
  rw [e] at this
  simp at this
  omega
theorem rn_le {os row : List Int} {r : Int} (h : 0 < os.length) : rn os row ≤ r ↔ ∀ k, k < os.length → cdiv (os.getD k 0) (row.getD k 0) ≤ r := by
  constructor
  · intro c k hk
    have := mxl_le (xs := cs os row) (x := cdiv (os.getD k 0) (row.getD k 0)) (List.mem_map.mpr ⟨k, List.mem_range.mpr hk, rfl⟩)
    unfold rn at c
    omega
  · intro c
    obtain ⟨k, hk, e⟩ := List.mem_map.mp (mxl_mem (cs_ne (os := os) (row := row) h))
    have e : cdiv (os.getD k 0) (row.getD k 0) = mxl (cs os row) := e
    show mxl (cs os row) ≤ r
    rw [← e]
    exact c k (List.mem_range.mp hk)
theorem lruns_none {os row : List Int} (h : 0 ∈ row) : fn__law_runs [iD os, iD row] = .ret .none [] := by
  have i := in_ints 0 row
  rw [decide_eq_true h] at i
  unfold fn__law_runs toFn initE bd__law_runs
  unfold iD
  generalize os.map PyData.int = O at *
  generalize row.map PyData.int = R at *
  simp [inSl, outsOf, ioIx, i]
theorem pos_at {row : List Int} (h : 0 ∉ row) (hn : ∀ x ∈ row, 0 ≤ x) {k : Nat} (hk : k < row.length) : 0 < row.getD k 0 := by
  rw [List.getD_eq_getElem?_getD, List.getElem?_eq_getElem hk]
  have m : row[k] ∈ row := List.getElem_mem hk
  have := hn _ m
  have : row[k] ≠ 0 := fun e => h (e ▸ m)
  show 0 < row[k]
  omega
theorem lruns_ok {os row : List Int} (h0 : 0 < os.length) (h5 : os.length ≤ 5) (hl : row.length = os.length) (h : 0 ∉ row) (hn : ∀ x ∈ row, 0 ≤ x ∧ x ≤ 1000) : fn__law_runs [iD os, iD row] = .ret (.int (rn os row)) [] := by
  have i := in_ints 0 row
  rw [decide_eq_false h] at i
  have cf := compF_all (vs := [2]) (g := tgN 2) (e := (eOp fAdd (eOp fDiv (eOp (fIx false) (eVar 0) (eVar 2)) (eOp (fIx false) (eVar 1) (eVar 2))) (eBlt fInt (aCons (eOp (boolRes fLt) (eOp fMul (eOp fDiv (eOp (fIx false) (eVar 0) (eVar 2)) (eOp (fIx false) (eVar 1) (eVar 2))) (eOp (fIx false) (eVar 1) (eVar 2))) (eOp (fIx false) (eVar 0) (eVar 2))) (aNil))))) (ρ := [.v (iD os), .v (iD row), .u]) (fun k : Nat => PyData.int (k : Int)) (fun k => PyData.int (cdiv (os.getD k 0) (row.getD k 0))) (List.range os.length) (fun k hk => by
    have hk := List.mem_range.mp hk
    have a1 := at_map (xs := os) hk
    have a2 := at_map (xs := row) (k := k) (by omega)
    have p := pos_at h (fun x hx => (hn x hx).1) (k := k) (by omega)
    have u : row.getD k 0 ≤ 1000 := by
      rw [List.getD_eq_getElem?_getD, List.getElem?_eq_getElem (by omega)]
      exact (hn _ (List.getElem_mem (by omega))).2
    have ce := cd_eq (o := os.getD k 0) p
    have d : divOk (row.getD k 0) = true := divOk_s p (by omega)
    have m : mulFits (os.getD k 0 / row.getD k 0) (row.getD k 0) = true := fits_r ⟨by omega, by omega⟩
    refine ⟨[.v (iD os), .v (iD row), .v (.int k)], .v (.int (cdiv (os.getD k 0) (row.getD k 0))), [.v (iD os), .v (iD row), .v (.int k)], [.v (iD os), .v (iD row), .v (.int k)], rfl, ?_, rfl, rfl⟩
    rw [← ce]
    unfold iD
    generalize os.getD k 0 = x at *
    generalize row.getD k 0 = y at *
    generalize os.map PyData.int = O at *
    generalize row.map PyData.int = R at *
    simp [fIx, a1, a2, d, m, fInt])
  have ec : (List.range os.length).map (fun k => PyData.int (cdiv (os.getD k 0) (row.getD k 0))) = (cs os row).map PyData.int := by
    unfold cs
    rw [List.map_map]
    rfl
  rw [ec, ← rng_n] at cf
  have mx := max_l (cs_ne (row := row) h0)
  have lo := len_iD os
  have rg : rngOk (os.length : Int) = true := rngOk_s (by omega) (by omega)
  have ln : lineOk os.length = true := lineOk_s (by omega)
  unfold fn__law_runs toFn initE bd__law_runs rn
  generalize mxl (cs os row) = z at *
  generalize (cs os row).map PyData.int = C at *
  unfold iD at *
  generalize os.map PyData.int = O at *
  generalize row.map PyData.int = R at *
  simp [inSl, outsOf, ioIx, i, lo, rg, ln]
  rw [cf]
  simp [mx]
end K10
end
section
set_option Elab.async false
set_option linter.all false
set_option maxRecDepth 100000
set_option maxHeartbeats 4000000
namespace K10
open PySem L2 Pd
theorem rng_get (xs : List Int) : (List.range xs.length).map (fun k => xs.getD k 0) = xs := by
  apply List.ext_getElem (by simp)
  intro i h1 h2
  simp only [List.getElem_map, List.getElem_range, List.getD_eq_getElem?_getD]
  rw [List.getElem?_eq_getElem h2]
  rfl
theorem get_mem {xs : List Int} {k : Nat} (h : k < xs.length) : xs.getD k 0 ∈ xs := by
  rw [List.getD_eq_getElem?_getD, List.getElem?_eq_getElem h]
  exact List.getElem_mem h
theorem mem_get {xs : List Int} {x : Int} (h : x ∈ xs) : ∃ k, k < xs.length ∧ xs.getD k 0 = x := by
  obtain ⟨k, hk, e⟩ := List.getElem_of_mem h
  refine ⟨k, hk, ?_⟩
  rw [List.getD_eq_getElem?_getD, List.getElem?_eq_getElem hk]
  exact e
theorem map_tab (xs : List Int) : xs.map PyData.int = tab (fun k => .int (xs.getD k 0)) xs.length := by
  have e : (List.range xs.length).map (fun k => PyData.int (xs.getD k 0)) = ((List.range xs.length).map fun k => xs.getD k 0).map PyData.int := by
    rw [List.map_map]
    rfl
  unfold tab
  rw [e, rng_get]
structure Ord (os : List Int) : Prop where
  l0 : 1 ≤ os.length
  l1 : os.length ≤ 5
  o : ∀ x ∈ os, 1 ≤ x ∧ x ≤ 1000
def nd (os : List Int) (r : Int) : List Int := os.map fun o => cdiv o r
theorem cd_one {o : Int} : cdiv o 1 = o := by
  unfold cdiv
  rw [Int.ediv_one]
  omega
theorem cd_pos {o r : Int} (ho : 1 ≤ o) (hr : 0 < r) : 1 ≤ cdiv o r := by
  by_cases h : 1 ≤ cdiv o r
  · exact h
  · have := (cd_le (o := o) (r := 0) hr).mp (by omega)
    omega
theorem cd_big {o r : Int} (ho : 1 ≤ o) (hr : o ≤ r) : cdiv o r = 1 := by
  have h1 := cd_pos ho (by omega : 0 < r)
  have h2 := (cd_le (o := o) (r := 1) (l := r) (by omega)).mpr (by omega)
  omega
theorem cd_mono {o r s : Int} (ho : 1 ≤ o) (hr : 0 < r) (h : r ≤ s) : cdiv o s ≤ cdiv o r := by
  have h1 := (cd_le (o := o) (l := r) (r := cdiv o r) hr).mp (Int.le_refl _)
  have h2 := cd_pos ho hr
  refine (cd_le (by omega)).mpr (Int.le_trans h1 ?_)
  exact Int.mul_le_mul_of_nonneg_left h (by omega)
theorem nd_len {os : List Int} {r : Int} : (nd os r).length = os.length := List.length_map _
theorem sum_le {α : Type} {f g : α → Int} : ∀ {xs : List α}, (∀ x ∈ xs, f x ≤ g x) → (xs.map f).sum ≤ (xs.map g).sum
  | [], _ => by simp
  | x :: xs, h => by
    have := sum_le fun y hy => h y (List.mem_cons_of_mem _ hy)
    have := h x (List.mem_cons_self ..)
    simp only [List.map_cons, List.sum_cons]
    omega
theorem nd_mono {os : List Int} (h : Ord os) {r s : Int} (hr : 0 < r) (hs : r ≤ s) : (nd os s).sum ≤ (nd os r).sum := sum_le fun x hx => cd_mono (h.o x hx).1 hr hs
theorem nd_one {os : List Int} (h : Ord os) {r : Int} (hr : ∀ x ∈ os, x ≤ r) : (nd os r).sum = os.length := by
  have : ∀ xs : List Int, (∀ x ∈ xs, 1 ≤ x ∧ x ≤ r) → (nd xs r).sum = xs.length := by
    intro xs
    induction xs with
    | nil => intro _; rfl
    | cons x xs ih =>
      intro h
      have := ih fun y hy => h y (List.mem_cons_of_mem _ hy)
      have h1 := h x (List.mem_cons_self ..)
      have h2 := cd_big h1.1 h1.2
      unfold nd at *
      simp only [List.map_cons, List.sum_cons, List.length_cons]
      omega
  exact this os fun x hx => ⟨(h.o x hx).1, hr x hx⟩
theorem least_ex {P : Int → Prop} : ∀ (n : Nat), P n → 1 ≤ n → ∃ R : Int, 1 ≤ R ∧ R ≤ n ∧ P R ∧ ∀ r, 1 ≤ r → r < R → ¬ P r := by
  intro n
  induction n using Nat.strongRecOn with
  | _ n ih =>
    intro h hn
    by_cases c : ∃ m : Nat, m < n ∧ 1 ≤ m ∧ P m
    · obtain ⟨m, h1, h2, h3⟩ := c
      obtain ⟨R, a, b, d, e⟩ := ih m h1 h3 h2
      exact ⟨R, a, by omega, d, e⟩
    · refine ⟨n, by omega, Int.le_refl _, h, fun r h1 h2 h3 => c ⟨r.toNat, by omega, by omega, ?_⟩⟩
      have : ((r.toNat : Nat) : Int) = r := by omega
      rw [this]
      exact h3
/-- the fewest runs -/
structure Fw (os : List Int) (places R : Int) : Prop where
  p : 1 ≤ R
  u : R ≤ 1000
  s : (nd os R).sum ≤ places
  n : ∀ r, 1 ≤ r → r < R → places < (nd os r).sum
theorem fw_ex {os : List Int} (h : Ord os) {places : Int} (hp : os.length ≤ places) : ∃ R, Fw os places R := by
  obtain ⟨R, h1, h2, h3, h4⟩ := least_ex (P := fun r => (nd os r).sum ≤ places) 1000 (by
    show (nd os 1000).sum ≤ places
    rw [nd_one h fun x hx => (h.o x hx).2]
    exact hp) (by decide)
  exact ⟨R, h1, h2, h3, fun r a b => by have := h4 r a b; omega⟩
theorem fw_le {os : List Int} (h : Ord os) {places R r : Int} (f : Fw os places R) (h1 : 1 ≤ r) (h2 : (nd os r).sum ≤ places) : R ≤ r := by
  by_cases c : R ≤ r
  · exact c
  · have := f.n r h1 (by omega)
    omega
theorem fw_uniq {os : List Int} (h : Ord os) {places R S : Int} (f : Fw os places R) (g : Fw os places S) : R = S := by
  have h1 := fw_le h f g.p g.s
  have h2 := fw_le h g f.p f.s
  omega
/-! ### the program's -/
theorem needed_ok {os : List Int} (h : Ord os) {r : Int} (h1 : 1 ≤ r) (h2 : r ≤ 100000) : fn_needed [iD os, .int r] = .ret (iD (nd os r)) [] := by
  have l5 := h.l1
  have d : divOk r = true := divOk_s (by omega) (by omega)
  have ln : lineOk os.length = true := lineOk_s (by omega)
  have cf := compF_all (vs := [2]) (g := tgN 2) (e := (eOp fDiv (eOp fSub (eOp fAdd (eVar 2) (eVar 1)) (eC (.int 1))) (eVar 1))) (ρ := [.v (iD os), .v (.int r), .u]) PyData.int (fun o => PyData.int (cdiv o r)) os (fun o _ => by
    refine ⟨[.v (iD os), .v (.int r), .v (.int o)], .v (.int (cdiv o r)), [.v (iD os), .v (.int r), .v (.int o)], [.v (iD os), .v (.int r), .v (.int o)], rfl, ?_, rfl, rfl⟩
    unfold iD cdiv
    generalize os.map PyData.int = O at *
    simp [d])
  have e : (os.map fun o => PyData.int (cdiv o r)) = (nd os r).map PyData.int := by
    unfold nd
    rw [List.map_map]
    rfl
  rw [e] at cf
  have lo : (os.map PyData.int).length = os.length := List.length_map _
  unfold fn_needed toFn initE bd_needed
  unfold iD at *
  generalize (nd os r).map PyData.int = N at *
  generalize os.map PyData.int = O at *
  simp [inSl, outsOf, ioIx, lo, ln]
  rw [cf]
  simp
theorem check_ok {places : Int} (h1 : 1 ≤ places) (h2 : places ≤ 12) : fn_check_places [.int places] = .ret .none [] := by
  have n := is_number_int places 1 12
  simp [h1, h2] at n
  unfold fn_check_places toFn initE bd_check_places
  simp [inSl, outsOf, ioIx, n]
theorem check_no {places : Int} (h : ¬ (1 ≤ places ∧ places ≤ 12)) : fn_check_places [.int places] = .ex "OutOfRange" [] := by
  have n := is_number_int places 1 12
  have : (decide (1 ≤ places) && decide (places ≤ 12)) = false := by
    rw [← Bool.decide_and]
    exact decide_eq_false h
  rw [this] at n
  unfold fn_check_places toFn initE bd_check_places
  simp [inSl, outsOf, ioIx, n]
theorem fewest_none {os : List Int} {places : Int} (h1 : 1 ≤ places) (h2 : places ≤ 12) (h : places < os.length) : fn_fewest_runs [iD os, .int places] = .ret .none [] := by
  have c := check_ok h1 h2
  have lo := len_iD os
  unfold fn_fewest_runs toFn initE bd_fewest_runs
  unfold iD at *
  generalize os.map PyData.int = O at *
  simp [inSl, outsOf, ioIx, c, lo, h]
theorem fewest_ok {os : List Int} (h : Ord os) {places R : Int} (h1 : 1 ≤ places) (h2 : places ≤ 12) (hl : os.length ≤ places) (f : Fw os places R) : fn_fewest_runs [iD os, .int places] = .ret (.int R) [] := by
  have c := check_ok h1 h2
  have lo := len_iD os
  have nl : ¬ (places < os.length) := by omega
  have fu := f.u
  have fp := f.p
  obtain ⟨ρ', l, rfl⟩ := sWhile_inv (t := (eOpT fGt (eBlt fSum (aCons (eCall 2 fn_needed (aCons (eVar 0) (aCons (eVar 2) (aNil)))) (aNil))) (eVar 1))) (S := (sAug 2 fAddI (eC (.int 1)))) (fun m ρ => ∃ r : Int, ρ = [.v (iD os), .v (.int places), .v (.int r)] ∧ 1 ≤ r ∧ r ≤ R ∧ m = (R - r).toNat) (fun ρ => ρ = [.v (iD os), .v (.int places), .v (.int R)]) (by
    rintro m ρ ⟨r, rfl, r1, r2, rfl⟩
    have n := needed_ok h (r := r) r1 (by omega)
    have s := sum_t (nd os r)
    by_cases e : r = R
    · left
      subst e
      have ns : ¬ (places < (nd os r).sum) := by have := f.s; omega
      refine ⟨[.v (iD os), .v (.int places), .v (.int r)], ?_, rfl⟩
      unfold iD at *
      generalize (nd os r).sum = z at *
      generalize (nd os r).map PyData.int = N at *
      generalize os.map PyData.int = O at *
      simp [n, s, ns]
    · right
      have ns : places < (nd os r).sum := f.n r r1 (by omega)
      refine ⟨[.v (iD os), .v (.int places), .v (.int r)], [.v (iD os), .v (.int places), .v (.int (r + 1))], (R - (r + 1)).toNat, ?_, .inl ?_, by omega, r + 1, rfl, by omega, by omega, rfl⟩
      · unfold iD at *
        generalize (nd os r).sum = z at *
        generalize (nd os r).map PyData.int = N at *
        generalize os.map PyData.int = O at *
        simp [n, s, ns]
      · unfold iD at *
        generalize os.map PyData.int = O at *
        simp) (R - 1).toNat [.v (iD os), .v (.int places), .v (.int 1)] ⟨1, rfl, Int.le_refl _, fp, rfl⟩
  unfold fn_fewest_runs toFn initE bd_fewest_runs
  unfold iD at *
  generalize os.map PyData.int = O at *
  simp [inSl, outsOf, ioIx, c, lo, nl]
  rw [l]
  simp
theorem told_none {os : List Int} {places : Int} (h1 : 1 ≤ places) (h2 : places ≤ 12) (h : places < os.length) : fn_told_layout [iD os, .int places] = .ret .none [] := by
  have c := fewest_none h1 h2 h
  unfold fn_told_layout toFn initE bd_told_layout
  unfold iD at *
  generalize os.map PyData.int = O at *
  simp [inSl, outsOf, ioIx, c, fIsN, isNone]
theorem told_ok {os : List Int} (h : Ord os) {places R : Int} (h1 : 1 ≤ places) (h2 : places ≤ 12) (hl : os.length ≤ places) (f : Fw os places R) : fn_told_layout [iD os, .int places] = .ret (iD (nd os R)) [] := by
  have c := fewest_ok h h1 h2 hl f
  have n := needed_ok h f.p (by have := f.u; omega)
  unfold fn_told_layout toFn initE bd_told_layout
  unfold iD at *
  generalize (nd os R).map PyData.int = N at *
  generalize os.map PyData.int = O at *
  simp [inSl, outsOf, ioIx, c, n, fIsN, isNone]
theorem fewest_bad {d : D} {places : Int} (h : ¬ (1 ≤ places ∧ places ≤ 12)) : fn_fewest_runs [d, .int places] = .ex "OutOfRange" [] := by
  have c := check_no h
  unfold fn_fewest_runs toFn initE bd_fewest_runs
  simp [inSl, outsOf, ioIx, c]
theorem told_bad {d : D} {places : Int} (h : ¬ (1 ≤ places ∧ places ≤ 12)) : fn_told_layout [d, .int places] = .ex "OutOfRange" [] := by
  have c := fewest_bad (d := d) h
  unfold fn_told_layout toFn initE bd_told_layout
  simp [inSl, outsOf, ioIx, c]
end K10
end
section
set_option Elab.async false
set_option linter.all false
set_option maxRecDepth 100000
set_option maxHeartbeats 4000000
namespace K10
open PySem L2 Pd
def mnl : List Int → Int
  | [] => 0
  | x :: xs => leastI x xs
theorem mnl_le {xs : List Int} {x : Int} (h : x ∈ xs) : mnl xs ≤ x := by
  cases xs with
  | nil => cases h
  | cons y ys =>
    have l := leastI_le ys y
    rcases List.mem_cons.mp h with rfl | h
    · exact l.1
    · exact l.2 x h
theorem mnl_mem {xs : List Int} (h : xs ≠ []) : mnl xs ∈ xs := by
  cases xs with
  | nil => exact absurd rfl h
  | cons y ys => exact leastI_mem ys y
theorem min_t {xs : List Int} (h : xs ≠ []) : fMin [.tuple (xs.map PyData.int)] = some (.v (.int (mnl xs))) := by
  cases xs with
  | nil => exact absurd rfl h
  | cons y ys => simp only [fMin, asInts_m]; rfl
theorem mnl_zero {xs : List Int} (h : xs ≠ []) (hn : ∀ x ∈ xs, 0 ≤ x) : mnl xs = 0 ↔ 0 ∈ xs := by
  have m := mnl_mem h
  constructor
  · intro e
    exact e ▸ m
  · intro z
    have h1 := mnl_le z
    have h2 := hn _ m
    omega
theorem ne_len {xs : List Int} (h : 0 < xs.length) : xs ≠ [] := fun e => by rw [e] at h; simp at h
/-- a layout of some places -/
structure Row (os row : List Int) : Prop where
  l : row.length = os.length
  b : ∀ x ∈ row, 0 ≤ x ∧ x ≤ 1000
theorem runs_none {os row : List Int} (h : Ord os) (r : Row os row) (hz : 0 ∈ row) : fn_runs_of [iD os, iD row] = .ret .none [] := by
  have ne : row ≠ [] := List.ne_nil_of_mem hz
  have mt := min_t ne
  rw [(mnl_zero ne fun x hx => (r.b x hx).1).mpr hz] at mt
  unfold fn_runs_of toFn initE bd_runs_of
  unfold iD at *
  generalize os.map PyData.int = O at *
  generalize row.map PyData.int = R at *
  simp [inSl, outsOf, ioIx, mt]
theorem runs_ok {os row : List Int} (h : Ord os) (r : Row os row) (hz : 0 ∉ row) : fn_runs_of [iD os, iD row] = .ret (.int (rn os row)) [] := by
  have l0 := h.l0
  have l1 := h.l1
  have rl := r.l
  have ne : row ≠ [] := ne_len (by omega)
  have mt := min_t ne
  have nz : ¬ mnl row = 0 := fun e => hz ((mnl_zero ne fun x hx => (r.b x hx).1).mp e)
  have cf := compF_tab (vs := [2, 3]) (t := tgT [tgN 2, tgN 3]) (e := (eOp fDiv (eOp fSub (eOp fAdd (eVar 2) (eVar 3)) (eC (.int 1))) (eVar 3))) (ρ := [.v (iD os), .v (iD row), .u, .u]) (f := fun k => .tuple [.int (os.getD k 0), .int (row.getD k 0)]) (g := fun k => .int (cdiv (os.getD k 0) (row.getD k 0))) (n := os.length) (fun k hk => by
    have p := pos_at hz (fun x hx => (r.b x hx).1) (k := k) (by omega)
    have u := (r.b _ (get_mem (xs := row) (k := k) (by omega))).2
    have d : divOk (row.getD k 0) = true := divOk_s p (by omega)
    refine ⟨[.v (iD os), .v (iD row), .v (.int (os.getD k 0)), .v (.int (row.getD k 0))], .v (.int (cdiv (os.getD k 0) (row.getD k 0))), [.v (iD os), .v (iD row), .v (.int (os.getD k 0)), .v (.int (row.getD k 0))], [.v (iD os), .v (iD row), .v (.int (os.getD k 0)), .v (.int (row.getD k 0))], rfl, ?_, rfl, rfl⟩
    unfold iD cdiv
    generalize os.getD k 0 = x at *
    generalize row.getD k 0 = y at *
    generalize os.map PyData.int = O at *
    generalize row.map PyData.int = R at *
    simp [d])
  have ez : zipD (os.map PyData.int) (row.map PyData.int) = tab (fun k => .tuple [.int (os.getD k 0), .int (row.getD k 0)]) os.length := by
    have e1 := map_tab os
    have e2 := map_tab row
    rw [rl] at e2
    rw [e1, e2, tab_zip]
  have ec : tab (fun k => .int (cdiv (os.getD k 0) (row.getD k 0))) os.length = (cs os row).map PyData.int := by
    unfold cs
    rw [tab_int]
  rw [ec, ← ez] at cf
  have mx := max_l (cs_ne (os := os) (row := row) (by omega))
  have ln : lineOk (zipD (os.map PyData.int) (row.map PyData.int)).length = true := by
    rw [ez, tab_len]
    exact lineOk_s (by omega)
  unfold fn_runs_of toFn initE bd_runs_of rn
  unfold iD at *
  generalize mxl (cs os row) = z at *
  generalize (cs os row).map PyData.int = C at *
  generalize os.map PyData.int = O at *
  generalize row.map PyData.int = R at *
  generalize mnl row = m at *
  simp [inSl, outsOf, ioIx, mt, nz, ln]
  rw [cf]
  simp [mx]
theorem cd_hi {o l : Int} (hl : 0 < l) (ho : 0 ≤ o) : cdiv o l ≤ o := (cd_le hl).mpr (by
  have := Int.mul_le_mul_of_nonneg_left (show 1 ≤ l by omega) ho
  omega)
theorem rn_hi {os row : List Int} (h : Ord os) (r : Row os row) (hz : 0 ∉ row) : 0 ≤ rn os row ∧ rn os row ≤ 1000 := by
  have l0 := h.l0
  have rl := r.l
  obtain ⟨k, hk, e⟩ := List.mem_map.mp (mxl_mem (cs_ne (os := os) (row := row) (by omega)))
  have e : cdiv (os.getD k 0) (row.getD k 0) = rn os row := e
  have hk := List.mem_range.mp hk
  have p := pos_at hz (fun x hx => (r.b x hx).1) (k := k) (by omega)
  have o := h.o _ (get_mem hk)
  have h1 := cd_hi (l := row.getD k 0) p (by omega : 0 ≤ os.getD k 0)
  have h2 := cd_pos (r := row.getD k 0) o.1 p
  omega
theorem sum_bd {xs : List Int} {b : Int} (h : ∀ x ∈ xs, 0 ≤ x ∧ x ≤ b) : 0 ≤ xs.sum ∧ xs.sum ≤ xs.length * b := by
  induction xs with
  | nil => simp
  | cons x xs ih =>
    have h1 := ih fun y hy => h y (List.mem_cons_of_mem _ hy)
    have h2 := h x (List.mem_cons_self ..)
    have e : ((xs.length : Int) + 1) * b = xs.length * b + b := by grind
    simp only [List.sum_cons, List.length_cons]
    rw [Int.natCast_add, Int.natCast_one, e]
    omega
theorem waste_none {os row : List Int} (h : Ord os) (r : Row os row) (hz : 0 ∈ row) : fn_waste_of [iD os, iD row] = .ret .none [] := by
  have c := runs_none h r hz
  unfold fn_waste_of toFn initE bd_waste_of
  unfold iD at *
  generalize os.map PyData.int = O at *
  generalize row.map PyData.int = R at *
  simp [inSl, outsOf, ioIx, c, fIsN, isNone]
theorem waste_ok {os row : List Int} (h : Ord os) (r : Row os row) (hz : 0 ∉ row) : fn_waste_of [iD os, iD row] = .ret (.int (rn os row * row.sum - os.sum)) [] := by
  have c := runs_ok h r hz
  have hi := rn_hi h r hz
  have s1 := sum_t row
  have s2 := sum_t os
  have sb := sum_bd r.b
  have l1 := h.l1
  have rl := r.l
  have m : mulFits (rn os row) row.sum = true := fits_l ⟨by omega, by omega⟩
  unfold fn_waste_of toFn initE bd_waste_of
  unfold iD at *
  generalize os.map PyData.int = O at *
  generalize row.map PyData.int = R at *
  generalize rn os row = z at *
  simp [inSl, outsOf, ioIx, c, fIsN, isNone, s1, s2, m]
theorem wsum {os row : List Int} (r : Row os row) (z : Int) : ((List.range os.length).map fun k => z * row.getD k 0 - os.getD k 0).sum = z * row.sum - os.sum := by
  have e : ∀ (ks : List Nat), (ks.map fun k => z * row.getD k 0 - os.getD k 0).sum = z * (ks.map fun k => row.getD k 0).sum - (ks.map fun k => os.getD k 0).sum := by
    intro ks
    induction ks with
    | nil => simp
    | cons k ks ih =>
      simp only [List.map_cons, List.sum_cons]
      rw [ih]
      grind
  rw [e, rng_get]
  have e2 := rng_get row
  rw [r.l] at e2
  rw [e2]
/-! ### layouts and orders judged -/
def inL (places x : Int) : Bool := decide (0 ≤ x) && decide (x ≤ places)
theorem layout_ok {os row : List Int} {places : Int} (hl : row.length = os.length) (h5 : row.length ≤ 5) : fn_is_layout [iD os, .int places, iD row] = .ret (.bool (row.all (inL places) && decide (row.sum ≤ places))) [] := by
  have lr := len_iD row
  have lo := len_iD os
  rw [← hl] at lo
  have st := sum_t row
  have ln : lineOk row.length = true := lineOk_s (by omega)
  have al := allF_map (vs := [3]) (g := tgN 3) (e := (eCall 3 fn_is_number (aCons (eVar 3) (aCons (eC (.int 0)) (aCons (eVar 1) (aNil)))))) (ρ := [.v (iD os), .v (.int places), .v (iD row), .u]) PyData.int (inL places) row (fun x _ => by
    have n := is_number_int x 0 places
    refine ⟨[.v (iD os), .v (.int places), .v (iD row), .v (.int x)], .v (.bool (inL places x)), [.v (iD os), .v (.int places), .v (iD row), .v (.int x)], rfl, ?_, rfl, rfl⟩
    unfold iD inL
    generalize os.map PyData.int = O at *
    generalize row.map PyData.int = R at *
    simp [n])
  have ll : (row.map PyData.int).length = row.length := List.length_map _
  unfold fn_is_layout toFn initE bd_is_layout
  unfold iD at *
  generalize os.map PyData.int = O at *
  generalize row.map PyData.int = R at *
  generalize row.all (inL places) = b at *
  simp [inSl, outsOf, ioIx, lr, lo, ll, ln]
  rw [al]
  cases b <;> simp [st]
noncomputable abbrev lay2 (d : D) : FOut := fn_is_layout [.tuple [.int 9, .int 9], .int 4, d]
theorem oy0 : lay2 .none = .ret (.bool false) [] := by
  unfold lay2 fn_is_layout toFn initE bd_is_layout
  simp [inSl, outsOf, ioIx]
theorem oy1 (ds : List D) : lay2 (.list ds) = .ret (.bool false) [] := by
  unfold lay2 fn_is_layout toFn initE bd_is_layout
  simp [inSl, outsOf, ioIx]
theorem oy2 (d : D) : lay2 (.tuple [d]) = .ret (.bool false) [] := by
  unfold lay2 fn_is_layout toFn initE bd_is_layout
  simp [inSl, outsOf, ioIx]
theorem oy3 (a b c : D) : lay2 (.tuple [a, b, c]) = .ret (.bool false) [] := by
  unfold lay2 fn_is_layout toFn initE bd_is_layout
  simp [inSl, outsOf, ioIx]
theorem oy4 {a b : D} (h : fn_is_number [a, .int 0, .int 4] = .ret (.bool false) []) : lay2 (.tuple [a, b]) = .ret (.bool false) [] := by
  unfold lay2 fn_is_layout toFn initE bd_is_layout
  simp [inSl, outsOf, ioIx, allF, h]
theorem oy5 {a b : D} (h : fn_is_number [a, .int 0, .int 4] = .ret (.bool true) []) (h2 : fn_is_number [b, .int 0, .int 4] = .ret (.bool false) []) : lay2 (.tuple [a, b]) = .ret (.bool false) [] := by
  unfold lay2 fn_is_layout toFn initE bd_is_layout
  simp [inSl, outsOf, ioIx, allF, h, h2]
theorem oy6 {a b : Int} (h : fn_is_number [.int a, .int 0, .int 4] = .ret (.bool true) []) (h2 : fn_is_number [.int b, .int 0, .int 4] = .ret (.bool true) []) : lay2 (.tuple [.int a, .int b]) = .ret (.bool (decide (a + b ≤ 4))) [] := by
  have st := sum_t [a, b]
  simp at st
  unfold lay2 fn_is_layout toFn initE bd_is_layout
  simp [inSl, outsOf, ioIx, allF, h, h2, st]
def oddY : List D := [.none, .list [.int 1, .int 2], .tuple [.int 1], .tuple [.int 1, .int 2, .int 0], .tuple [.int 2, .int 3], .tuple [.int (-1), .int 2], .tuple [.bool true, .int 2], .tuple [.int 1, .none], .tuple [.int 5, .int 0]]
theorem oddY_no : ∀ x ∈ oddY, lay2 x = .ret (.bool false) [] := by
  intro x hx
  unfold oddY at hx
  simp only [List.mem_cons, List.mem_nil_iff, or_false] at hx
  rcases hx with rfl | rfl | rfl | rfl | rfl | rfl | rfl | rfl | rfl
  · exact oy0
  · exact oy1 _
  · exact oy2 _
  · exact oy3 _ _ _
  · have := oy6 (is_number_int 2 0 4) (is_number_int 3 0 4)
    exact this
  · exact oy4 (is_number_int (-1) 0 4)
  · exact oy4 (is_number_bool true 0 4)
  · exact oy5 (is_number_int 1 0 4) (is_number_none 0 4)
  · exact oy4 (is_number_int 5 0 4)
theorem yes_Y : lay2 (.tuple [.int 4, .int 0]) = .ret (.bool true) [] := oy6 (is_number_int 4 0 4) (is_number_int 0 0 4)
theorem oo0 : fn_are_orders [.none] = .ret (.bool false) [] := by
  unfold fn_are_orders toFn initE bd_are_orders
  simp [inSl, outsOf, ioIx]
theorem oo1 (ds : List D) : fn_are_orders [.list ds] = .ret (.bool false) [] := by
  unfold fn_are_orders toFn initE bd_are_orders
  simp [inSl, outsOf, ioIx]
theorem oo2 : fn_are_orders [.tuple []] = .ret (.bool false) [] := by
  unfold fn_are_orders toFn initE bd_are_orders
  simp [inSl, outsOf, ioIx]
theorem oo3 : fn_are_orders [.tuple (List.replicate 6 (.int 1))] = .ret (.bool false) [] := by
  unfold fn_are_orders toFn initE bd_are_orders
  simp [inSl, outsOf, ioIx]
theorem oo_one {d : D} (h : fn_is_number [d, .int 1, .int 500] = .ret (.bool false) []) : fn_are_orders [.tuple [d]] = .ret (.bool false) [] := by
  unfold fn_are_orders toFn initE bd_are_orders
  simp [inSl, outsOf, ioIx, allF, h]
def oddO : List D := [.none, .tuple [], .list [.int 1], .tuple [.int 0], .tuple [.int 501], .tuple [.int (-1)], .tuple [.bool true], .tuple [.none], .tuple (List.replicate 6 (.int 1))]
theorem oddO_no : ∀ x ∈ oddO, fn_are_orders [x] = .ret (.bool false) [] := by
  intro x hx
  unfold oddO at hx
  simp only [List.mem_cons, List.mem_nil_iff, or_false] at hx
  rcases hx with rfl | rfl | rfl | rfl | rfl | rfl | rfl | rfl | rfl
  · exact oo0
  · exact oo2
  · exact oo1 _
  · exact oo_one (is_number_int 0 1 500)
  · exact oo_one (is_number_int 501 1 500)
  · exact oo_one (is_number_int (-1) 1 500)
  · exact oo_one (is_number_bool true 1 500)
  · exact oo_one (is_number_none 1 500)
  · exact oo3
def okO (x : Int) : Bool := decide (1 ≤ x) && decide (x ≤ 500)
theorem orders_ok {os : List Int} (h0 : 1 ≤ os.length) (h5 : os.length ≤ 5) : fn_are_orders [iD os] = .ret (.bool (os.all okO)) [] := by
  have lo := len_iD os
  have ln : lineOk os.length = true := lineOk_s (by omega)
  have al := allF_map (vs := [1]) (g := tgN 1) (e := (eCall 3 fn_is_number (aCons (eVar 1) (aCons (eC (.int 1)) (aCons (eC (.int (500))) (aNil)))))) (ρ := [.v (iD os), .u]) PyData.int okO os (fun x _ => by
    have n := is_number_int x 1 500
    refine ⟨[.v (iD os), .v (.int x)], .v (.bool (okO x)), [.v (iD os), .v (.int x)], rfl, ?_, rfl, rfl⟩
    unfold iD okO
    generalize os.map PyData.int = O at *
    simp [n])
  have ll : (os.map PyData.int).length = os.length := List.length_map _
  have c1 : (1 : Int) ≤ os.length := by omega
  have c2 : (os.length : Int) ≤ 5 := by omega
  unfold fn_are_orders toFn initE bd_are_orders
  unfold iD at *
  generalize os.map PyData.int = O at *
  generalize os.all okO = b at *
  simp [inSl, outsOf, ioIx, lo, ll, ln, c1, c2]
  rw [al]
  simp
end K10
end
section
set_option Elab.async false
set_option linter.all false
set_option maxRecDepth 100000
set_option maxHeartbeats 4000000
namespace K10
open PySem L2 Pd
theorem idx_of : ∀ {xs : List Int} {z : Int}, z ∈ xs → ∃ k, k < xs.length ∧ xs.getD k 0 = z ∧ (xs.map PyData.int).findIdx? (fun y => PyData.eqv y (.int z)) = some k
  | x :: xs, z, h => by
    by_cases c : x = z
    · exact ⟨0, by simp, c, by simp [List.findIdx?_cons, PyData.eqv, c]⟩
    · obtain ⟨k, h1, h2, h3⟩ := idx_of (xs := xs) (z := z) (by
        rcases List.mem_cons.mp h with e | e
        · exact absurd e.symm c
        · exact e)
      refine ⟨k + 1, by simp; omega, by simpa using h2, ?_⟩
      rw [List.map_cons, List.findIdx?_cons, h3]
      simp [PyData.eqv, c]
theorem flat_ints (xs : List Int) : (xs.map PyData.int).all flatD = true := by
  rw [List.all_map]
  exact List.all_eq_true.mpr fun _ _ => rfl
theorem index_of {xs : List Int} {z : Int} (h : z ∈ xs) : ∃ k, k < xs.length ∧ xs.getD k 0 = z ∧ mIndex (.list (xs.map PyData.int)) [.int z] = some (.v (.int (k : Nat))) := by
  obtain ⟨k, h1, h2, h3⟩ := idx_of h
  refine ⟨k, h1, h2, ?_⟩
  simp only [mIndex]
  rw [flat_ints, h3]
  rfl
/-! ### place by place -/
def inc (row : List Int) (k : Nat) : List Int := row.set k (row.getD k 0 + 1)
theorem inc_len {row : List Int} {k : Nat} : (inc row k).length = row.length := List.length_set ..
theorem inc_at {row : List Int} {k j : Nat} (hk : k < row.length) (hj : j < row.length) : (inc row k).getD j 0 = if j = k then row.getD k 0 + 1 else row.getD j 0 := by
  unfold inc
  rw [List.getD_eq_getElem?_getD, List.getElem?_set, List.getD_eq_getElem?_getD, List.getD_eq_getElem?_getD]
  by_cases c : k = j
  · subst c
    simp [hk]
  · have : ¬ j = k := fun e => c e.symm
    simp [c, this]
theorem inc_sum : ∀ {row : List Int} {k : Nat}, k < row.length → (inc row k).sum = row.sum + 1
  | x :: xs, 0, _ => by
    unfold inc
    simp
    omega
  | x :: xs, k + 1, h => by
    have := inc_sum (row := xs) (k := k) (by simpa using h)
    unfold inc at *
    simp at this ⊢
    rw [this]
    omega
theorem sum_dom : ∀ {xs ys : List Int}, xs.length = ys.length → (∀ k, k < xs.length → xs.getD k 0 ≤ ys.getD k 0) → xs.sum ≤ ys.sum ∧ (ys.sum ≤ xs.sum → xs = ys)
  | [], [], _, _ => by simp
  | x :: xs, y :: ys, e, h => by
    have h0 := h 0 (by simp)
    have ih := sum_dom (xs := xs) (ys := ys) (by simpa using e) fun k hk => by
      have := h (k + 1) (by simp; omega)
      simpa using this
    simp at h0
    simp only [List.sum_cons]
    refine ⟨by omega, fun l => ?_⟩
    rw [ih.2 (by omega)]
    congr 1
    omega
theorem nd_at {os : List Int} {r : Int} {k : Nat} (hk : k < os.length) : (nd os r).getD k 0 = cdiv (os.getD k 0) r := by
  unfold nd
  rw [List.getD_eq_getElem?_getD, List.getElem?_map, List.getD_eq_getElem?_getD, List.getElem?_eq_getElem hk]
  rfl
/-- a row gets by with so many runs just if it has the places -/
theorem rn_nd {os row : List Int} {r : Int} (h : 0 < os.length) (hl : row.length = os.length) (hp : ∀ x ∈ row, 1 ≤ x) (hr : 1 ≤ r) : rn os row ≤ r ↔ ∀ k, k < os.length → (nd os r).getD k 0 ≤ row.getD k 0 := by
  rw [rn_le h]
  have key : ∀ k, k < os.length → (cdiv (os.getD k 0) (row.getD k 0) ≤ r ↔ (nd os r).getD k 0 ≤ row.getD k 0) := by
    intro k hk
    rw [nd_at hk, cd_le (hp _ (get_mem (by omega))), cd_le (by omega), Int.mul_comm]
  exact ⟨fun a k hk => (key k hk).mp (a k hk), fun a k hk => (key k hk).mpr (a k hk)⟩
/-- no row has fewer runs than the fewest -/
theorem fw_rn {os row : List Int} (h : Ord os) {places R : Int} (f : Fw os places R) (hl : row.length = os.length) (hp : ∀ x ∈ row, 1 ≤ x) (hs : row.sum ≤ places) : R ≤ rn os row := by
  have l0 := h.l0
  have r1 : 1 ≤ rn os row := by
    have hk : 0 < os.length := by omega
    have a := (rn_le (os := os) (row := row) (r := rn os row) (by omega)).mp (Int.le_refl _) 0 hk
    have b := cd_pos (o := os.getD 0 0) (r := row.getD 0 0) (h.o _ (get_mem hk)).1 (hp _ (get_mem (by omega)))
    omega
  refine fw_le h f r1 ?_
  have d := (rn_nd (os := os) (row := row) (r := rn os row) (by omega) hl hp r1).mp (Int.le_refl _)
  have s := (sum_dom (xs := nd os (rn os row)) (ys := row) (by rw [nd_len, hl]) fun k hk => d k (by rw [nd_len] at hk; exact hk)).1
  omega
theorem cs_at {os row : List Int} {j : Nat} (h : j < os.length) : (cs os row).getD j 0 = cdiv (os.getD j 0) (row.getD j 0) := by
  have e : (cs os row)[j]? = some (cdiv (os.getD j 0) (row.getD j 0)) := by
    unfold cs
    rw [List.getElem?_map, List.getElem?_range h]
    rfl
  rw [List.getD_eq_getElem?_getD (l := cs os row), e]
  rfl
abbrev gf (os : List Int) (places : Int) (row : List Int) (a k : Sl) : Pd.Env := [.v (iD os), .v (.int places), .o (.list (row.map PyData.int)), a, k]
structure GI (os : List Int) (places R : Int) (row : List Int) : Prop where
  l : row.length = os.length
  p : ∀ x ∈ row, 1 ≤ x
  s : row.sum ≤ places
  d : (∀ k, k < os.length → row.getD k 0 ≤ (nd os R).getD k 0) ∨ (∀ k, k < os.length → (nd os R).getD k 0 ≤ row.getD k 0)
theorem le_sum {xs : List Int} (hp : ∀ x ∈ xs, 0 ≤ x) {x : Int} (h : x ∈ xs) : x ≤ xs.sum := by
  induction xs with
  | nil => cases h
  | cons y ys ih =>
    have nn := sum_nn fun z hz => hp z (List.mem_cons_of_mem _ hz)
    have hy := hp y (List.mem_cons_self ..)
    rw [List.sum_cons]
    rcases List.mem_cons.mp h with rfl | h
    · omega
    · have := ih (fun z hz => hp z (List.mem_cons_of_mem _ hz)) h
      omega
theorem asks_eq {os row : List Int} (h : Ord os) (hl : row.length = os.length) (hp : ∀ x ∈ row, 1 ≤ x ∧ x ≤ 12) (sl sk : Sl) : compF [4] (tgN 4) tTrue (eCall 2 fn__law_runs (aCons (eTup (aCons (eOp (fIx false) (eVar 0) (eVar 4)) (aNil))) (aCons (eTup (aCons (eOp (fIx false) (eVar 2) (eVar 4)) (aNil))) (aNil)))) (rngD 0 os.length) (gf os places row sl .u) = some ((cs os row).map PyData.int, gf os places row sl .u) := by
  have cf := compF_all (vs := [4]) (g := tgN 4) (e := (eCall 2 fn__law_runs (aCons (eTup (aCons (eOp (fIx false) (eVar 0) (eVar 4)) (aNil))) (aCons (eTup (aCons (eOp (fIx false) (eVar 2) (eVar 4)) (aNil))) (aNil))))) (ρ := gf os places row sl .u) (fun k : Nat => PyData.int (k : Int)) (fun k => PyData.int (cdiv (os.getD k 0) (row.getD k 0))) (List.range os.length) (fun k hk => by
    have hk := List.mem_range.mp hk
    have a1 := at_map (xs := os) hk
    have a2 := at_map (xs := row) (k := k) (by omega)
    have b2 := hp _ (get_mem (xs := row) (k := k) (by omega))
    have lr := lruns_ok (os := [os.getD k 0]) (row := [row.getD k 0]) (by simp) (by simp) (by simp) (fun e => by rw [List.mem_singleton] at e; omega) (fun x hx => by
      rw [List.mem_singleton] at hx
      subst hx
      omega)
    have er : rn [os.getD k 0] [row.getD k 0] = cdiv (os.getD k 0) (row.getD k 0) := rfl
    rw [er] at lr
    unfold iD at lr
    simp only [List.map_cons, List.map_nil] at lr
    refine ⟨gf os places row sl (.v (.int k)), .v (.int (cdiv (os.getD k 0) (row.getD k 0))), gf os places row sl (.v (.int k)), gf os places row sl (.v (.int k)), rfl, ?_, rfl, rfl⟩
    unfold gf iD at *
    generalize cdiv (os.getD k 0) (row.getD k 0) = z at *
    generalize os.getD k 0 = x at *
    generalize row.getD k 0 = y at *
    generalize os.map PyData.int = O at *
    generalize row.map PyData.int = R at *
    simp [fIx, a1, a2, lr])
  have ec : (List.range os.length).map (fun k => PyData.int (cdiv (os.getD k 0) (row.getD k 0))) = (cs os row).map PyData.int := by
    unfold cs
    rw [List.map_map]
    rfl
  rw [ec, ← rng_n] at cf
  exact cf
theorem given_ok {os : List Int} (h : Ord os) {places : Nat} {R : Int} (h2 : places ≤ 12) (hl : os.length ≤ places) (f : Fw os places R) : fn__law_given [iD os, .int places] = .ret (.int R) [] := by
  have l0 := h.l0
  have l1 := h.l1
  have lo := len_iD os
  have ln : lineOk os.length = true := lineOk_s (by omega)
  have rg : rngOk (os.length : Int) = true := rngOk_s (by omega) (by omega)
  have mo : manyOk (os.length : Int) = true := manyOk_s (by omega) (by omega)
  have fp := f.p
  obtain ⟨ρ', l, row, a, k, g, gs, rfl⟩ := sWhile_inv (t := (eOpT fLt (eBlt fSum (aCons (eVar 2) (aNil))) (eVar 1))) (S := (sSeq (sSet 3 (eLc [4] (tgN 4) (tTrue) (eCall 2 fn__law_runs (aCons (eTup (aCons (eOp (fIx false) (eVar 0) (eVar 4)) (aNil))) (aCons (eTup (aCons (eOp (fIx false) (eVar 2) (eVar 4)) (aNil))) (aNil)))) (iRange rng1 (aCons (eBlt fLen (aCons (eVar 0) (aNil))) (aNil)))))
  (sSeq (sSet 4 (eMetR "list" mIndex (eVar 3) (aCons (eBlt fMax (aCons (eVar 3) (aNil))) (aNil))))
  (sPut false 2 (eVar 4) (eOp fAdd (eOp (fIx false) (eVar 2) (eVar 4)) (eC (.int 1))))))) (fun m ρ => ∃ row a k, GI os places R row ∧ m = ((places : Int) - row.sum).toNat ∧ ρ = gf os places row a k) (fun ρ => ∃ row a k, GI os places R row ∧ row.sum = places ∧ ρ = gf os places row a k) (by
    rintro m ρ ⟨row, a, k, g, rfl, rfl⟩
    have st := sum_l row
    have gs := g.s
    by_cases c : row.sum < places
    · right
      have hp : ∀ x ∈ row, 1 ≤ x ∧ x ≤ 12 := fun x hx => by
        have := le_sum (fun z hz => by have := g.p z hz; omega) hx
        exact ⟨g.p x hx, by omega⟩
      have cf := asks_eq (places := places) h g.l hp a k
      obtain ⟨j, j1, j2, j3⟩ := index_of (mxl_mem (cs_ne (os := os) (row := row) (by omega)))
      have mx := max_l (cs_ne (os := os) (row := row) (by omega))
      have cl : (cs os row).length = os.length := by simp [cs]
      rw [cl] at j1
      have gl := g.l
      have at2 := at_map (xs := row) (k := j) (by omega)
      have pt := put_i (xs := row.map PyData.int) (k := j) (y := .int (row.getD j 0 + 1)) (by rw [List.length_map]; omega)
      have ei : (row.map PyData.int).set j (.int (row.getD j 0 + 1)) = (inc row j).map PyData.int := by
        unfold inc
        rw [List.map_set]
      rw [ei] at pt
      have cj : cdiv (os.getD j 0) (row.getD j 0) = mxl (cs os row) := by
        rw [← j2, cs_at j1]
      have is := inc_sum (row := row) (k := j) (by omega)
      have g' : GI os places R (inc row j) := by
        refine ⟨by rw [inc_len, gl], fun x hx => ?_, by omega, ?_⟩
        · obtain ⟨i, hi, rfl⟩ := mem_get hx
          rw [inc_len] at hi
          rw [inc_at (by omega) hi]
          have a1 := (hp _ (get_mem hi)).1
          have a2 := (hp _ (get_mem (xs := row) (k := j) (by omega))).1
          split <;> omega
        · rcases g.d with d | d
          · by_cases e : ∃ i, i < os.length ∧ row.getD i 0 < (nd os R).getD i 0
            · left
              obtain ⟨i, hi, lt⟩ := e
              have m1 : cdiv (os.getD i 0) (row.getD i 0) ≤ mxl (cs os row) := mxl_le (List.mem_map.mpr ⟨i, List.mem_range.mpr hi, rfl⟩)
              have p1 := (hp _ (get_mem (xs := row) (k := i) (by omega))).1
              have p2 := (hp _ (get_mem (xs := row) (k := j) (by omega))).1
              rw [nd_at hi] at lt
              have n1 : ¬ cdiv (os.getD i 0) (row.getD i 0) ≤ R := fun q => by
                rw [cd_le (by omega), Int.mul_comm, ← cd_le (by omega)] at q
                omega
              have n2 : ¬ cdiv (os.getD j 0) (row.getD j 0) ≤ R := by omega
              have n3 : row.getD j 0 < (nd os R).getD j 0 := by
                rw [nd_at j1]
                by_cases q : cdiv (os.getD j 0) R ≤ row.getD j 0
                · rw [cd_le (by omega), Int.mul_comm, ← cd_le (by omega)] at q
                  exact absurd q n2
                · omega
              intro i2 hi2
              rw [inc_at (by omega) (by omega)]
              have := d i2 hi2
              split
              · rename_i e
                subst e
                omega
              · exact this
            · right
              intro i2 hi2
              rw [inc_at (by omega) (by omega)]
              have : ¬ row.getD i2 0 < (nd os R).getD i2 0 := fun q => e ⟨i2, hi2, q⟩
              split
              · rename_i e
                subst e
                omega
              · omega
          · right
            intro i2 hi2
            rw [inc_at (by omega) (by omega)]
            have := d i2 hi2
            split
            · rename_i e
              subst e
              omega
            · exact this
      refine ⟨gf os places row a k, gf os places (inc row j) (.o (.list ((cs os row).map PyData.int))) (.v (.int j)), ((places : Int) - (inc row j).sum).toNat, ?_, .inl ?_, by omega, inc row j, _, _, g', rfl, rfl⟩
      · unfold gf iD at *
        generalize os.map PyData.int = O at *
        generalize row.map PyData.int = R at *
        generalize row.sum = z at *
        simp [st, c]
      · unfold gf iD at *
        generalize (cs os row).map PyData.int = C at *
        generalize mxl (cs os row) = mm at *
        generalize (inc row j).map PyData.int = N at *
        generalize row.getD j 0 = y at *
        generalize os.map PyData.int = O at *
        generalize row.map PyData.int = R at *
        simp [lo, rg, ln]
        rw [cf]
        simp [mx, j3, fIx, at2, pt]
    · left
      refine ⟨gf os places row a k, ?_, row, a, k, g, by omega, rfl⟩
      unfold gf iD at *
      generalize os.map PyData.int = O at *
      generalize row.map PyData.int = R at *
      generalize row.sum = z at *
      simp [st, c]) ((places : Int) - (List.replicate os.length (1 : Int)).sum).toNat (gf os places (List.replicate os.length 1) .u .u) ⟨_, _, _, by
      have es : (List.replicate os.length (1 : Int)).sum = os.length := by simp
      refine ⟨by simp, fun x hx => by rw [List.eq_of_mem_replicate hx]; omega, by rw [es]; omega, .inl fun k hk => ?_⟩
      rw [nd_at hk, List.getD_eq_getElem?_getD, List.getElem?_replicate, if_pos hk]
      exact cd_pos (h.o _ (get_mem hk)).1 (by omega), rfl, rfl⟩
  have gl := g.l
  have rb : ∀ x ∈ row, 0 ≤ x ∧ x ≤ 1000 := fun x hx => by
    have := le_sum (fun z hz => by have := g.p z hz; omega) hx
    have := g.p x hx
    omega
  have lr := lruns_ok (os := os) (row := row) (by omega) l1 gl (fun z => by have := g.p 0 z; omega) rb
  have e : rn os row = R := by
    have u := fw_rn h f gl g.p (by omega)
    have v : rn os row ≤ R := by
      refine (rn_nd (by omega) gl g.p fp).mpr ?_
      rcases g.d with d | d
      · have s := (sum_dom (xs := row) (ys := nd os R) (by rw [nd_len, gl]) fun k hk => d k (by omega)).2 (by have := f.s; omega)
        intro k hk
        rw [← s]
        exact Int.le_refl _
      · exact d
    omega
  rw [e] at lr
  have er : (List.replicate os.length [PyData.int 1]).flatten = (List.replicate os.length (1 : Int)).map PyData.int := by
    rw [List.map_replicate]
    generalize os.length = n
    induction n with
    | zero => rfl
    | succ n ih => rw [List.replicate_succ, List.flatten_cons, ih]; rfl
  have lrow : lineOk (row.map PyData.int).length = true := by
    rw [List.length_map]
    exact lineOk_s (by omega)
  unfold fn__law_given toFn initE bd__law_given
  unfold gf iD at *
  generalize os.map PyData.int = O at *
  generalize (List.replicate os.length (1 : Int)).map PyData.int = X at *
  generalize row.map PyData.int = Y at *
  simp [inSl, outsOf, ioIx, lo, mo, ln, er]
  rw [l]
  simp [lrow, lr]
end K10
end
section
set_option Elab.async false
set_option linter.all false
set_option maxRecDepth 100000
set_option maxHeartbeats 4000000
namespace K10
open PySem L2 Pd
def lf1 (os one : List Int) (r : Int) (k : Nat) : Int := if 0 < os.getD k 0 - r * one.getD k 0 then os.getD k 0 - r * one.getD k 0 else 0
def bk (os one two : List Int) (r : Int) (k : Nat) : Bool := decide (0 < lf1 os one r k) && decide (two.getD k 0 = 0)
def bad (os one two : List Int) (r : Int) : List Nat := (List.range os.length).filter (bk os one two r)
def sm (os one two : List Int) (r : Int) : Nat → Int
  | 0 => 0
  | k + 1 => if 0 < lf1 os one r k then (if sm os one two r k < cdiv (lf1 os one r k) (two.getD k 0) then cdiv (lf1 os one r k) (two.getD k 0) else sm os one two r k) else sm os one two r k
open Classical in
noncomputable def T (os one two : List Int) (r : Int) : Option Int := if bad os one two r = [] then some (r + sm os one two r os.length) else none
theorem bad_nil {os one two : List Int} {r : Int} : bad os one two r = [] ↔ ∀ k, k < os.length → bk os one two r k = false := by
  unfold bad
  rw [List.filter_eq_nil_iff]
  constructor
  · intro h k hk
    have := h k (List.mem_range.mpr hk)
    cases e : bk os one two r k with
    | true => exact absurd e this
    | false => rfl
  · intro h k hk e
    rw [h k (List.mem_range.mp hk)] at e
    cases e
theorem mostI_snoc (x : Int) (xs : List Int) (y : Int) : mostI x (xs ++ [y]) = if mostI x xs < y then y else mostI x xs := by
  unfold mostI
  rw [List.foldl_append]
  rfl
theorem sm_most (os one two : List Int) (r : Int) : ∀ n, mostI 0 (((List.range n).filter fun k => decide (0 < lf1 os one r k)).map fun k => cdiv (lf1 os one r k) (two.getD k 0)) = sm os one two r n
  | 0 => rfl
  | n + 1 => by
    have ih := sm_most os one two r n
    rw [List.range_succ, List.filter_append, List.map_append, sm]
    by_cases c : 0 < lf1 os one r n
    · rw [if_pos c]
      simp only [List.filter_cons, List.filter_nil, decide_eq_true c, if_true, List.map_cons, List.map_nil]
      rw [mostI_snoc, ih]
    · rw [if_neg c]
      simp only [List.filter_cons, List.filter_nil, decide_eq_false c, if_false, List.map_nil, List.append_nil, Bool.false_eq_true]
      exact ih
/-- what one plate and the other must be -/
structure Pl (os : List Int) (row : List Int) (places : Nat) : Prop where
  l : row.length = os.length
  b : ∀ x ∈ row, 0 ≤ x
  s : row.sum ≤ places
  p : places ≤ 12
theorem Pl.at {os row : List Int} {places : Nat} (h : Pl os row places) {k : Nat} (hk : k < os.length) : 0 ≤ row.getD k 0 ∧ row.getD k 0 ≤ 12 := by
  have m := get_mem (xs := row) (k := k) (by have := h.l; omega)
  have h1 := h.b _ m
  have h2 := le_sum h.b m
  have := h.s
  have := h.p
  omega
theorem lf_bd {os one : List Int} {r : Int} {k : Nat} {places : Nat} (h : Ord os) (p : Pl os one places) (hr : 0 ≤ r) (hk : k < os.length) : 0 ≤ lf1 os one r k ∧ lf1 os one r k ≤ os.getD k 0 := by
  have o := h.o _ (get_mem hk)
  have q := (p.at hk).1
  have m := Int.mul_nonneg hr q
  unfold lf1
  split <;> omega
abbrev sf (os one two : List Int) (r m : Int) (a b c l : Sl) : Pd.Env := [.v (iD os), .v (iD one), .v (.int r), .v (iD two), .v (.int m), a, b, c, l]
theorem second_ok {os one two : List Int} {r : Int} {places : Nat} (h : Ord os) (p : Pl os one places) (q : Pl os two places) (hr : 0 ≤ r) (hr2 : r ≤ 1000) : fn_second_runs [iD os, iD one, .int r, iD two] = .ret (if bad os one two r = [] then .int (sm os one two r os.length) else .none) [] := by
  have l0 := h.l0
  have l1 := h.l1
  have ez : zip3 (os.map PyData.int) (one.map PyData.int) (two.map PyData.int) = tab (fun k => .tuple [.int (os.getD k 0), .int (one.getD k 0), .int (two.getD k 0)]) os.length := by
    have e1 := map_tab os
    have e2 := map_tab one
    have e3 := map_tab two
    rw [p.l] at e2
    rw [q.l] at e3
    rw [e1, e2, e3]
    unfold zip3 tab
    apply List.ext_getElem (by simp)
    intro i h1 h2
    simp
  have lp := forF_or (t := tgT [tgN 5, tgN 6, tgN 7]) (S := (sSeq (sSet 8 (eBlt fMax (aCons (eC (.int 0)) (aCons (eOp fSub (eVar 5) (eOp fMul (eVar 2) (eVar 6))) (aNil)))))
  (sSeq (sIf (eAnd (eOpT fGt (eVar 8) (eC (.int 0))) (eOpT fEq (eVar 7) (eC (.int 0)))) (sRet (eC .none)) (sNx))
  (sIf (eOpT fGt (eVar 8) (eC (.int 0))) (sSet 4 (eBlt fMax (aCons (eVar 4) (aCons (eOp fDiv (eOp fSub (eOp fAdd (eVar 8) (eVar 7)) (eC (.int 1))) (eVar 7)) (aNil))))) (sNx))))) (f := fun k => .tuple [.int (os.getD k 0), .int (one.getD k 0), .int (two.getD k 0)]) (n := os.length) (fun i ρ => ∃ a b c l, (∀ k, k < i → bk os one two r k = false) ∧ ρ = sf os one two r (sm os one two r i) a b c l) (fun z => z = .v .none ∧ ∃ k, k < os.length ∧ bk os one two r k = true) (by
    rintro i hi ρ ⟨a, b, c, l, hb, rfl⟩
    have o := h.o _ (get_mem hi)
    have q1 := p.at hi
    have q2 := q.at hi
    have m1 : mulFits r (one.getD i 0) = true := fits_r ⟨by omega, by omega⟩
    refine ⟨sf os one two r (sm os one two r i) (.v (.int (os.getD i 0))) (.v (.int (one.getD i 0))) (.v (.int (two.getD i 0))) l, rfl, ?_⟩
    have lb := lf_bd h p hr hi
    by_cases c1 : 0 < os.getD i 0 - r * one.getD i 0
    · have el : lf1 os one r i = os.getD i 0 - r * one.getD i 0 := if_pos c1
      have c3 : r * one.getD i 0 < os.getD i 0 := by omega
      by_cases c2 : two.getD i 0 = 0
      · right
        refine ⟨.v .none, sf os one two r (sm os one two r i) (.v (.int (os.getD i 0))) (.v (.int (one.getD i 0))) (.v (.int (two.getD i 0))) (.v (.int (lf1 os one r i))), ?_, rfl, i, hi, ?_⟩
        · rw [el]
          unfold sf iD at *
          generalize sm os one two r i = s at *
          generalize os.map PyData.int = O at *
          generalize one.map PyData.int = A at *
          generalize two.map PyData.int = B at *
          generalize os.getD i 0 = x at *
          generalize one.getD i 0 = y at *
          generalize two.getD i 0 = z at *
          simp [m1, c3, c2]
        · unfold bk
          rw [el, decide_eq_true c1, decide_eq_true c2]
          rfl
      · left
        have d : divOk (two.getD i 0) = true := divOk_s (by omega) (by omega)
        refine ⟨sf os one two r (sm os one two r (i + 1)) (.v (.int (os.getD i 0))) (.v (.int (one.getD i 0))) (.v (.int (two.getD i 0))) (.v (.int (lf1 os one r i))), .inl ?_, _, _, _, _, ?_, rfl⟩
        · rw [sm, el, if_pos c1]
          unfold sf iD cdiv at *
          generalize sm os one two r i = s at *
          generalize os.map PyData.int = O at *
          generalize one.map PyData.int = A at *
          generalize two.map PyData.int = B at *
          generalize os.getD i 0 = x at *
          generalize one.getD i 0 = y at *
          generalize two.getD i 0 = z at *
          simp [m1, c3, c2, d]
        · intro k hk
          by_cases e : k = i
          · subst e
            unfold bk
            rw [decide_eq_false c2, Bool.and_false]
          · exact hb k (by omega)
    · have el : lf1 os one r i = 0 := if_neg c1
      have c3 : ¬ r * one.getD i 0 < os.getD i 0 := by omega
      left
      refine ⟨sf os one two r (sm os one two r (i + 1)) (.v (.int (os.getD i 0))) (.v (.int (one.getD i 0))) (.v (.int (two.getD i 0))) (.v (.int (lf1 os one r i))), .inl ?_, _, _, _, _, ?_, rfl⟩
      · rw [sm, el, if_neg (by omega)]
        unfold sf iD at *
        generalize sm os one two r i = s at *
        generalize os.map PyData.int = O at *
        generalize one.map PyData.int = A at *
        generalize two.map PyData.int = B at *
        generalize os.getD i 0 = x at *
        generalize one.getD i 0 = y at *
        generalize two.getD i 0 = z at *
        simp [m1, c3]
      · intro k hk
        by_cases e : k = i
        · subst e
          unfold bk
          rw [el]
          rfl
        · exact hb k (by omega)) (ρ := sf os one two r 0 .u .u .u .u) ⟨_, _, _, _, fun k hk => by omega, rfl⟩
  rw [← ez] at lp
  have lz : lineOk (zip3 (os.map PyData.int) (one.map PyData.int) (two.map PyData.int)).length = true := by
    rw [ez, tab_len]
    exact lineOk_s (by omega)
  rcases lp with ⟨ρ', l, a, b, c, l', hb, rfl⟩ | ⟨z, ρ', l, rfl, k, hk, hb⟩
  · rw [if_pos (bad_nil.mpr hb)]
    unfold fn_second_runs toFn initE bd_second_runs
    unfold sf iD at *
    generalize sm os one two r os.length = s at *
    generalize os.map PyData.int = O at *
    generalize one.map PyData.int = A at *
    generalize two.map PyData.int = B at *
    simp [inSl, outsOf, ioIx, lz]
    rw [l]
    simp
  · rw [if_neg (fun e => by have := bad_nil.mp e k hk; rw [hb] at this; cases this)]
    unfold fn_second_runs toFn initE bd_second_runs
    unfold sf iD at *
    generalize os.map PyData.int = O at *
    generalize one.map PyData.int = A at *
    generalize two.map PyData.int = B at *
    simp [inSl, outsOf, ioIx, lz]
    rw [l]
end K10
end
section
set_option Elab.async false
set_option linter.all false
set_option maxRecDepth 100000
set_option maxHeartbeats 4000000
namespace K10
open PySem L2 Pd
def mo : Option Int → Option Int → Option Int
  | b, none => b
  | none, some v => some v
  | some b, some v => some (if v < b then v else b)
def obD : Option Int → D
  | none => .none
  | some v => .int v
abbrev lt (os : List Int) (places : Int) (b : Option Int) (L : D) (one two : List Int) (r : Int) (s7 s8 s9 : Sl) : Pd.Env := [.v (iD os), .v (.int places), .v (obD b), .v L, .v (iD one), .v (iD two), .v (.int r), s7, s8, s9]
noncomputable abbrev lS1 : Sv := (sSet 7 (eLc [9] (tgN 9) (tTrue) (eBlt fMax (aCons (eC (.int 0)) (aCons (eOp fSub (eOp (fIx false) (eVar 0) (eVar 9)) (eOp fMul (eVar 6) (eOp (fIx false) (eVar 4) (eVar 9)))) (aNil)))) (iRange rng1 (aCons (eBlt fLen (aCons (eVar 0) (aNil))) (aNil)))))
noncomputable abbrev lS2 : Sv := (sIf (eOpT fEq (eLc [9] (tgN 9) (eAnd (eOpT fGt (eOp (fIx false) (eVar 7) (eVar 9)) (eC (.int 0))) (eOpT fEq (eOp (fIx false) (eVar 5) (eVar 9)) (eC (.int 0)))) (eVar 9) (iRange rng1 (aCons (eBlt fLen (aCons (eVar 7) (aNil))) (aNil)))) (eLst (aNil))) (sSeq (sSet 8 (eBlt fMax (aCons (eOp fAdd (eLst (aCons (eC (.int 0)) (aNil))) (eLc [9] (tgN 9) (eOpT fGt (eOp (fIx false) (eVar 7) (eVar 9)) (eC (.int 0))) (eOp fDiv (eOp fSub (eOp fAdd (eOp (fIx false) (eVar 7) (eVar 9)) (eOp (fIx false) (eVar 5) (eVar 9))) (eC (.int 1))) (eOp (fIx false) (eVar 5) (eVar 9))) (iRange rng1 (aCons (eBlt fLen (aCons (eVar 7) (aNil))) (aNil))))) (aNil))))
  (sSet 2 (eIf (eOpT fIsN (eVar 2) (eC .none)) (eOp fAdd (eVar 6) (eVar 8)) (eBlt fMin (aCons (eVar 2) (aCons (eOp fAdd (eVar 6) (eVar 8)) (aNil))))))) (sNx))
def lefts (os one : List Int) (r : Int) : List Int := (List.range os.length).map (lf1 os one r)
theorem lefts_len {os one : List Int} {r : Int} : (lefts os one r).length = os.length := by simp [lefts]
theorem lefts_at {os one : List Int} {r : Int} {k : Nat} (h : k < os.length) : atI ((lefts os one r).map PyData.int) (k : Int) = some (.int (lf1 os one r k)) := by
  refine atI_k ?_
  unfold lefts
  rw [List.map_map, List.getElem?_map, List.getElem?_range h]
  rfl
section
variable {os one two : List Int} {places : Nat} {r : Int} {b : Option Int} {L : D} {s7 s8 s9 : Sl} {pl : Int}
theorem body1 (h : Ord os) (p : Pl os one places) (hr : 0 ≤ r) (hr2 : r ≤ 1000) : ∃ t9, lS1 (lt os pl b L one two r s7 s8 s9) = .nx (lt os pl b L one two r (.o (.list ((lefts os one r).map PyData.int))) s8 t9) := by
  have l1 := h.l1
  have lo := len_iD os
  have rg : rngOk (os.length : Int) = true := rngOk_s (by omega) (by omega)
  have ln : lineOk os.length = true := lineOk_s (by omega)
  have cf := compF_all (vs := [9]) (g := tgN 9) (e := (eBlt fMax (aCons (eC (.int 0)) (aCons (eOp fSub (eOp (fIx false) (eVar 0) (eVar 9)) (eOp fMul (eVar 6) (eOp (fIx false) (eVar 4) (eVar 9)))) (aNil))))) (ρ := lt os pl b L one two r s7 s8 .u) (fun k : Nat => PyData.int (k : Int)) (fun k => PyData.int (lf1 os one r k)) (List.range os.length) (fun k hk => by
    have hk := List.mem_range.mp hk
    have a1 := at_map (xs := os) hk
    have a2 := at_map (xs := one) (k := k) (by have := p.l; omega)
    have q1 := p.at hk
    have m1 : mulFits r (one.getD k 0) = true := fits_r ⟨by omega, by omega⟩
    refine ⟨lt os pl b L one two r s7 s8 (.v (.int k)), .v (.int (lf1 os one r k)), lt os pl b L one two r s7 s8 (.v (.int k)), lt os pl b L one two r s7 s8 (.v (.int k)), rfl, ?_, rfl, rfl⟩
    unfold lt lf1 iD at *
    generalize obD b = bb at *
    generalize os.map PyData.int = O at *
    generalize one.map PyData.int = A at *
    generalize two.map PyData.int = B at *
    generalize os.getD k 0 = x at *
    generalize one.getD k 0 = y at *
    simp [fIx, a1, a2, m1])
  have ec : (List.range os.length).map (fun k => PyData.int (lf1 os one r k)) = (lefts os one r).map PyData.int := by
    unfold lefts
    rw [List.map_map]
    rfl
  rw [ec, ← rng_n] at cf
  refine ⟨backS (some s9), ?_⟩
  unfold lS1 lt iD at *
  generalize (lefts os one r).map PyData.int = F at *
  generalize obD b = bb at *
  generalize os.map PyData.int = O at *
  generalize one.map PyData.int = A at *
  generalize two.map PyData.int = B at *
  simp [lo, rg, ln]
  rw [cf]
  simp
theorem body2 (h : Ord os) (p : Pl os one places) (q : Pl os two places) (hr : 0 ≤ r) (hr2 : r ≤ 1000) : ∃ t8 t9, lS2 (lt os pl b L one two r (.o (.list ((lefts os one r).map PyData.int))) s8 s9) = .nx (lt os pl (mo b (T os one two r)) L one two r (.o (.list ((lefts os one r).map PyData.int))) t8 t9) := by
  have l0 := h.l0
  have l1 := h.l1
  have lo : fLen [.list ((lefts os one r).map PyData.int)] = some (.v (.int os.length)) := by
    simp [fLen, lefts_len]
  have rg : rngOk (os.length : Int) = true := rngOk_s (by omega) (by omega)
  have ln : lineOk os.length = true := lineOk_s (by omega)
  have c1 := compF_map (vs := [9]) (g := tgN 9) (c := (eAnd (eOpT fGt (eOp (fIx false) (eVar 7) (eVar 9)) (eC (.int 0))) (eOpT fEq (eOp (fIx false) (eVar 5) (eVar 9)) (eC (.int 0))))) (e := eVar 9) (ρ := lt os pl b L one two r (.o (.list ((lefts os one r).map PyData.int))) s8 .u) (fun k : Nat => PyData.int (k : Int)) (bk os one two r) (fun k => PyData.int (k : Int)) (List.range os.length) (fun k hk => by
    have hk := List.mem_range.mp hk
    have a1 := lefts_at (os := os) (one := one) (r := r) hk
    have a2 := at_map (xs := two) (k := k) (by have := q.l; omega)
    refine ⟨lt os pl b L one two r (.o (.list ((lefts os one r).map PyData.int))) s8 (.v (.int k)), rfl, lt os pl b L one two r (.o (.list ((lefts os one r).map PyData.int))) s8 (.v (.int k)), ?_, fun _ => rfl, fun _ => ⟨.v (.int k), lt os pl b L one two r (.o (.list ((lefts os one r).map PyData.int))) s8 (.v (.int k)), lt os pl b L one two r (.o (.list ((lefts os one r).map PyData.int))) s8 (.v (.int k)), rfl, rfl, rfl⟩⟩
    unfold lt bk iD at *
    generalize obD b = bb at *
    generalize (lefts os one r).map PyData.int = F at *
    generalize lf1 os one r k = x at *
    generalize two.getD k 0 = y at *
    generalize os.map PyData.int = O at *
    generalize one.map PyData.int = A at *
    generalize two.map PyData.int = B at *
    by_cases e : 0 < x <;> simp [fIx, a1, a2, e])
  have e1 := eq_ints ((bad os one two r).map fun k : Nat => (k : Int)) []
  have e2 : ((bad os one two r).map fun k : Nat => (k : Int)).map PyData.int = ((List.range os.length).filter (bk os one two r)).map fun k : Nat => PyData.int (k : Int) := by
    rw [List.map_map]
    rfl
  rw [e2] at e1
  rw [← rng_n] at c1
  have tF : T os one two r = if bad os one two r = [] then some (r + sm os one two r os.length) else none := by
    unfold T
    rfl
  by_cases c : bad os one two r = []
  · rw [if_pos c] at tF
    have e3 : decide ((bad os one two r).map (fun k : Nat => (k : Int)) = []) = true := by rw [c]; rfl
    rw [e3, List.map_nil] at e1
    have c2 := compF_map (vs := [9]) (g := tgN 9) (c := (eOpT fGt (eOp (fIx false) (eVar 7) (eVar 9)) (eC (.int 0)))) (e := (eOp fDiv (eOp fSub (eOp fAdd (eOp (fIx false) (eVar 7) (eVar 9)) (eOp (fIx false) (eVar 5) (eVar 9))) (eC (.int 1))) (eOp (fIx false) (eVar 5) (eVar 9)))) (ρ := lt os pl b L one two r (.o (.list ((lefts os one r).map PyData.int))) s8 .u) (fun k : Nat => PyData.int (k : Int)) (fun k => decide (0 < lf1 os one r k)) (fun k => PyData.int (cdiv (lf1 os one r k) (two.getD k 0))) (List.range os.length) (fun k hk => by
      have hk := List.mem_range.mp hk
      have a1 := lefts_at (os := os) (one := one) (r := r) hk
      have a2 := at_map (xs := two) (k := k) (by have := q.l; omega)
      have bn := bad_nil.mp c k hk
      have q2 := q.at hk
      refine ⟨lt os pl b L one two r (.o (.list ((lefts os one r).map PyData.int))) s8 (.v (.int k)), rfl, lt os pl b L one two r (.o (.list ((lefts os one r).map PyData.int))) s8 (.v (.int k)), ?_, fun _ => rfl, fun pz => ⟨.v (.int (cdiv (lf1 os one r k) (two.getD k 0))), lt os pl b L one two r (.o (.list ((lefts os one r).map PyData.int))) s8 (.v (.int k)), lt os pl b L one two r (.o (.list ((lefts os one r).map PyData.int))) s8 (.v (.int k)), ?_, rfl, rfl⟩⟩
      · unfold lt iD at *
        generalize obD b = bb at *
        generalize (lefts os one r).map PyData.int = F at *
        generalize lf1 os one r k = x at *
        generalize os.map PyData.int = O at *
        generalize one.map PyData.int = A at *
        generalize two.map PyData.int = B at *
        simp [fIx, a1]
      · have nz : two.getD k 0 ≠ 0 := fun z => by
          unfold bk at bn
          rw [pz, decide_eq_true z] at bn
          cases bn
        have d : divOk (two.getD k 0) = true := divOk_s (by omega) (by omega)
        unfold lt cdiv iD at *
        generalize obD b = bb at *
        generalize (lefts os one r).map PyData.int = F at *
        generalize lf1 os one r k = x at *
        generalize two.getD k 0 = y at *
        generalize os.map PyData.int = O at *
        generalize one.map PyData.int = A at *
        generalize two.map PyData.int = B at *
        simp [fIx, a1, a2, d])
    rw [← rng_n] at c2
    have e4 : ((List.range os.length).filter fun k => decide (0 < lf1 os one r k)).map (fun k => PyData.int (cdiv (lf1 os one r k) (two.getD k 0))) = (((List.range os.length).filter fun k => decide (0 < lf1 os one r k)).map fun k => cdiv (lf1 os one r k) (two.getD k 0)).map PyData.int := by
      rw [List.map_map]
      rfl
    have mx := max_l (xs := 0 :: ((List.range os.length).filter fun k => decide (0 < lf1 os one r k)).map fun k => cdiv (lf1 os one r k) (two.getD k 0)) (fun z => by cases z)
    have e5 : mxl (0 :: ((List.range os.length).filter fun k => decide (0 < lf1 os one r k)).map fun k => cdiv (lf1 os one r k) (two.getD k 0)) = sm os one two r os.length := sm_most os one two r os.length
    rw [e5, List.map_cons] at mx
    rw [e4] at c2
    have lm : lineOk ((((List.range os.length).filter fun k => decide (0 < lf1 os one r k)).map fun k => cdiv (lf1 os one r k) (two.getD k 0)).map PyData.int).length = true := lineOk_s (by
      have := List.length_filter_le (fun k => decide (0 < lf1 os one r k)) (List.range os.length)
      rw [List.length_range] at this
      simp only [List.length_map]
      omega)
    have lm2 : lineOk (1 + (((List.range os.length).filter fun k => decide (0 < lf1 os one r k)).map fun k => cdiv (lf1 os one r k) (two.getD k 0)).length) = true := lineOk_s (by
      have := List.length_filter_le (fun k => decide (0 < lf1 os one r k)) (List.range os.length)
      rw [List.length_range] at this
      simp only [List.length_map]
      omega)
    have ll : ((((List.range os.length).filter fun k => decide (0 < lf1 os one r k)).map fun k => cdiv (lf1 os one r k) (two.getD k 0)).map PyData.int).length = (((List.range os.length).filter fun k => decide (0 < lf1 os one r k)).map fun k => cdiv (lf1 os one r k) (two.getD k 0)).length := List.length_map _
    refine ⟨.v (.int (sm os one two r os.length)), backS (some (backS (some s9))), ?_⟩
    rw [tF]
    unfold lS2 lt iD at *
    generalize (((List.range os.length).filter (bk os one two r)).map fun k : Nat => PyData.int (k : Int)) = G at *
    generalize (((List.range os.length).filter fun k => decide (0 < lf1 os one r k)).map fun k => cdiv (lf1 os one r k) (two.getD k 0)) = M at *
    generalize M.map PyData.int = M2 at *
    generalize sm os one two r os.length = z at *
    generalize (lefts os one r).map PyData.int = F at *
    generalize os.map PyData.int = O at *
    generalize one.map PyData.int = A at *
    generalize two.map PyData.int = B at *
    cases b with
    | none =>
      unfold mo obD at *
      simp [lo, rg, ln]
      rw [c1]
      simp [e1, lo, rg, ln]
      rw [c2]
      simp [mx, lm2, ll, fIsN, isNone]
    | some v =>
      unfold mo obD at *
      simp [lo, rg, ln]
      rw [c1]
      simp [e1, lo, rg, ln]
      rw [c2]
      simp [mx, lm2, ll, fIsN, isNone]
  · rw [if_neg c] at tF
    have e3 : decide ((bad os one two r).map (fun k : Nat => (k : Int)) = []) = false := decide_eq_false fun z => c (List.map_eq_nil_iff.mp z)
    rw [e3, List.map_nil] at e1
    refine ⟨s8, backS (some s9), ?_⟩
    rw [tF]
    have em : mo b none = b := by cases b <;> rfl
    rw [em]
    unfold lS2 lt iD at *
    generalize (((List.range os.length).filter (bk os one two r)).map fun k : Nat => PyData.int (k : Int)) = G at *
    generalize (lefts os one r).map PyData.int = F at *
    generalize obD b = bb at *
    generalize os.map PyData.int = O at *
    generalize one.map PyData.int = A at *
    generalize two.map PyData.int = B at *
    simp [lo, rg, ln]
    rw [c1]
    simp [e1]
end
end K10
end
section
set_option Elab.async false
set_option linter.all false
set_option maxRecDepth 100000
set_option maxHeartbeats 4000000
namespace K10
open PySem L2 Pd
noncomputable def f1 (os : List Int) (N : Nat) (one two : List Int) (b : Option Int) : Option Int := (List.range N).foldl (fun b (r : Nat) => mo b (T os one two r)) b
noncomputable def f2 (os : List Int) (N : Nat) (L : List (List Int)) (one : List Int) (b : Option Int) : Option Int := L.foldl (fun b two => f1 os N one two b) b
noncomputable def f3 (os : List Int) (N : Nat) (L M : List (List Int)) (b : Option Int) : Option Int := M.foldl (fun b one => f2 os N L one b) b
def top (os : List Int) : Nat := (mxl os + 1).toNat
theorem top_i {os : List Int} (h : Ord os) : ((top os : Nat) : Int) = mxl os + 1 ∧ 1 ≤ mxl os ∧ mxl os ≤ 1000 := by
  have m := h.o _ (mxl_mem (ne_len (by have := h.l0; omega)))
  unfold top
  omega
theorem lay_pl {os row : List Int} {places : Nat} (hp : places ≤ 12) (h : row ∈ lay places os.length) : Pl os row places := by
  obtain ⟨a, b, c⟩ := lay_mem.mp h
  exact ⟨a, b, c, hp⟩
abbrev lg (os : List Int) (places : Int) (b : Option Int) (L : D) (s4 s5 s6 s7 s8 s9 : Sl) : Pd.Env := [.v (iD os), .v (.int places), .v (obD b), .v L, s4, s5, s6, s7, s8, s9]
noncomputable abbrev lB1 : Sv := sFor (iRange rng1 (aCons (eOp fAdd (eBlt fMax (aCons (eVar 0) (aNil))) (eC (.int 1))) (aNil))) (tgN 6) (sSeq lS1 lS2)
section
variable {os one two : List Int} {places : Nat} {b : Option Int} {L : D} {s4 s5 s6 s7 s8 s9 : Sl} {pl : Int}
theorem loop1 (h : Ord os) (p : Pl os one places) (q : Pl os two places) : ∃ t6 t7 t8 t9, lB1 (lg os pl b L (.v (iD one)) (.v (iD two)) s6 s7 s8 s9) = .nx (lg os pl (f1 os (top os) one two b) L (.v (iD one)) (.v (iD two)) t6 t7 t8 t9) := by
  obtain ⟨tp, m1, m2⟩ := top_i h
  have mt := max_t (ne_len (xs := os) (by have := h.l0; omega))
  have rg : rngOk (mxl os + 1) = true := rngOk_s (by omega) (by omega)
  obtain ⟨ρ', l, t6, t7, t8, t9, rfl⟩ := forF_tab (t := tgN 6) (S := sSeq lS1 lS2) (f := fun j => PyData.int (0 + (j : Nat))) (n := top os) (fun i ρ => ∃ t6 t7 t8 t9, ρ = lg os pl (f1 os i one two b) L (.v (iD one)) (.v (iD two)) t6 t7 t8 t9) (by
    rintro i hi ρ ⟨t6, t7, t8, t9, rfl⟩
    obtain ⟨u9, e1⟩ := body1 (os := os) (one := one) (two := two) (places := places) (r := (i : Int)) (b := f1 os i one two b) (L := L) (s7 := t7) (s8 := t8) (s9 := t9) (pl := pl) h p (by omega) (by omega)
    obtain ⟨u8, v9, e2⟩ := body2 (os := os) (one := one) (two := two) (places := places) (r := (i : Int)) (b := f1 os i one two b) (L := L) (s8 := t8) (s9 := u9) (pl := pl) h p q (by omega) (by omega)
    refine ⟨lg os pl (f1 os i one two b) L (.v (iD one)) (.v (iD two)) (.v (.int (0 + (i : Nat)))) t7 t8 t9, lg os pl (f1 os (i + 1) one two b) L (.v (iD one)) (.v (iD two)) (.v (.int i)) (.o (.list ((lefts os one i).map PyData.int))) u8 v9, rfl, .inl ?_, _, _, _, _, rfl⟩
    have ef : f1 os (i + 1) one two b = mo (f1 os i one two b) (T os one two i) := by
      unfold f1
      rw [List.range_succ, List.foldl_append]
      rfl
    rw [ef, Int.zero_add]
    show (match lS1 _ with | .nx ρ1 => lS2 ρ1 | o => o) = _
    rw [e1]
    exact e2) (ρ := lg os pl b L (.v (iD one)) (.v (iD two)) s6 s7 s8 s9) ⟨_, _, _, _, rfl⟩
  rw [← rng_tab] at l
  refine ⟨t6, t7, t8, t9, ?_⟩
  have tn : (mxl os + 1).toNat = top os := rfl
  unfold lB1
  generalize sSeq lS1 lS2 = S at *
  unfold lg iD at *
  generalize mxl os = m at *
  generalize f1 os (top os) one two b = b2 at *
  generalize top os = N at *
  generalize obD b = bb at *
  generalize obD b2 = bb2 at *
  generalize os.map PyData.int = O at *
  generalize one.map PyData.int = A at *
  generalize two.map PyData.int = B at *
  simp [mt, rg, tn]
  exact l
theorem loop2 (h : Ord os) (hp : places ≤ 12) (h4 : os.length ≤ 4) (p : Pl os one places) {L : List (List Int)} (hL : ∀ x ∈ L, Pl os x places) (hLn : L.length ≤ 100000) : ∃ t5 t6 t7 t8 t9, (sFor (iSeq (eVar 3)) (tgN 5) lB1) (lg os pl b (.list (L.map iD)) (.v (iD one)) s5 s6 s7 s8 s9) = .nx (lg os pl (f2 os (top os) L one b) (.list (L.map iD)) (.v (iD one)) t5 t6 t7 t8 t9) := by
  obtain ⟨ρ', l, t5, t6, t7, t8, t9, rfl⟩ := forF_map (t := tgN 5) (S := lB1) iD (xs := L) (fun pre ρ => ∃ t5 t6 t7 t8 t9, ρ = lg os pl (f2 os (top os) pre one b) (.list (L.map iD)) (.v (iD one)) t5 t6 t7 t8 t9) (by
    rintro pre x post e ρ ⟨t5, t6, t7, t8, t9, rfl⟩
    obtain ⟨u6, u7, u8, u9, e1⟩ := loop1 (os := os) (one := one) (two := x) (places := places) (b := f2 os (top os) pre one b) (L := .list (L.map iD)) (s6 := t6) (s7 := t7) (s8 := t8) (s9 := t9) (pl := pl) h p (hL x (by rw [e]; simp))
    have ef : f2 os (top os) (pre ++ [x]) one b = f1 os (top os) one x (f2 os (top os) pre one b) := by
      unfold f2
      rw [List.foldl_append]
      rfl
    rw [ef]
    exact ⟨_, _, rfl, .inl e1, _, _, _, _, _, rfl⟩) (ρ := lg os pl b (.list (L.map iD)) (.v (iD one)) s5 s6 s7 s8 s9) ⟨_, _, _, _, _, rfl⟩
  refine ⟨t5, t6, t7, t8, t9, ?_⟩
  have ln : lineOk (L.map iD).length = true := by
    rw [List.length_map]
    exact lineOk_s (by omega)
  generalize lB1 = S at *
  unfold lg at *
  generalize f2 os (top os) L one b = b2 at *
  generalize obD b = bb at *
  generalize obD b2 = bb2 at *
  generalize L.map iD = LL at *
  generalize iD os = O at *
  generalize iD one = A at *
  simp [ln]
  exact l
end
theorem two_ok {os : List Int} {places : Nat} (h : Ord os) (hp : places ≤ 12) (h4 : os.length ≤ 4) : fn__law_two [iD os, .int places] = .ret (obD (f3 os (top os) (lay places os.length) (lay places os.length) none)) [] := by
  have lo := len_iD os
  have ly := layouts_l (m := os.length) (places := places) h.l0 h4 hp
  have ln := lay_9 (places := places) (m := os.length) hp h4
  have hL : ∀ x ∈ lay places os.length, Pl os x places := fun x hx => lay_pl hp hx
  obtain ⟨ρ', l, t4, t5, t6, t7, t8, t9, rfl⟩ := forF_map (t := tgN 4) (S := (sFor (iSeq (eVar 3)) (tgN 5) lB1)) iD (xs := lay places os.length) (fun pre ρ => ∃ t4 t5 t6 t7 t8 t9, ρ = lg os places (f3 os (top os) (lay places os.length) pre none) (.list ((lay places os.length).map iD)) t4 t5 t6 t7 t8 t9) (by
    rintro pre x post e ρ ⟨t4, t5, t6, t7, t8, t9, rfl⟩
    obtain ⟨u5, u6, u7, u8, u9, e1⟩ := loop2 (os := os) (one := x) (places := places) (b := f3 os (top os) (lay places os.length) pre none) (L := lay places os.length) (s5 := t5) (s6 := t6) (s7 := t7) (s8 := t8) (s9 := t9) (pl := places) h hp h4 (hL x (by rw [e]; simp)) hL (by omega)
    have ef : f3 os (top os) (lay places os.length) (pre ++ [x]) none = f2 os (top os) (lay places os.length) x (f3 os (top os) (lay places os.length) pre none) := by
      unfold f3
      rw [List.foldl_append]
      rfl
    rw [ef]
    exact ⟨_, _, rfl, .inl e1, _, _, _, _, _, _, rfl⟩) (ρ := lg os places none (.list ((lay places os.length).map iD)) .u .u .u .u .u .u) ⟨_, _, _, _, _, _, rfl⟩
  have lk : lineOk ((lay places os.length).map iD).length = true := by
    rw [List.length_map]
    exact lineOk_s (by omega)
  have eb : bd__law_two = sSeq (sSet 2 (eC .none)) (sSeq (sSet 3 (eCall 2 fn__law_layouts (aCons (eBlt fLen (aCons (eVar 0) (aNil))) (aCons (eVar 1) (aNil))))) (sSeq (sFor (iSeq (eVar 3)) (tgN 4) (sFor (iSeq (eVar 3)) (tgN 5) lB1)) (sRet (eVar 2)))) := rfl
  unfold fn__law_two toFn initE
  rw [eb]
  generalize sFor (iSeq (eVar 3)) (tgN 5) lB1 = S at *
  generalize f3 os (top os) (lay places os.length) (lay places os.length) none = b2 at *
  unfold lg iD obD at *
  simp at l
  generalize hR : (lay places os.length).map (fun xs : List Int => PyData.tuple (xs.map PyData.int)) = R at *
  generalize os.map PyData.int = O at *
  simp [inSl, outsOf, ioIx, lo, ly, lk]
  rw [l]
  cases b2 <;> simp
end K10
end
section
set_option Elab.async false
set_option linter.all false
set_option maxRecDepth 100000
set_option maxHeartbeats 4000000
namespace K10
open PySem L2 Pd
theorem forF_bk {t : Tg} {S : Sv} {f : Nat → D} {n : Nat} (I : Nat → Pd.Env → Prop) (J : Pd.Env → Prop) (h : ∀ i, i < n → ∀ ρ, I i ρ → ∃ ρ1, t (f i) ρ = some ρ1 ∧ ((∃ ρ2, (S ρ1 = .nx ρ2 ∨ S ρ1 = .ct ρ2) ∧ I (i + 1) ρ2) ∨ (∃ ρ2, S ρ1 = .bk ρ2 ∧ J ρ2))) (hn : ∀ ρ, I n ρ → J ρ) {ρ : Pd.Env} (h0 : I 0 ρ) :
    ∃ ρ', forF t S (tab f n) ρ = .nx ρ' ∧ J ρ' := by
  induction n generalizing f I ρ with
  | zero => exact ⟨ρ, rfl, hn ρ h0⟩
  | succ n ih =>
    obtain ⟨ρ1, h1, h2⟩ := h 0 (Nat.succ_pos n) ρ h0
    rw [tab_cons, forF, h1]
    rcases h2 with ⟨ρ2, e | e, h3⟩ | ⟨ρ2, e, h3⟩
    · simp only [e]
      exact ih (f := fun j => f (j + 1)) (fun i => I (i + 1)) (fun i hi ρ hr => h (i + 1) (by omega) ρ hr) hn h3
    · simp only [e]
      exact ih (f := fun j => f (j + 1)) (fun i => I (i + 1)) (fun i hi ρ hr => h (i + 1) (by omega) ρ hr) hn h3
    · simp only [e]
      exact ⟨ρ2, rfl, h3⟩
theorem f1_succ {os one two : List Int} {b : Option Int} {i : Nat} : f1 os (i + 1) one two b = mo (f1 os i one two b) (T os one two i) := by
  unfold f1
  rw [List.range_succ, List.foldl_append]
  rfl
theorem sm_nn {os one two : List Int} {r : Int} : ∀ n, 0 ≤ sm os one two r n
  | 0 => Int.le_refl _
  | n + 1 => by
    have := sm_nn (os := os) (one := one) (two := two) (r := r) n
    rw [sm]
    split
    · split <;> omega
    · exact this
theorem f1_stop {os one two : List Int} {b : Option Int} {i : Nat} {v : Int} (e : f1 os i one two b = some v) (hv : v ≤ i) : ∀ k, f1 os (i + k) one two b = some v
  | 0 => e
  | k + 1 => by
    have ih := f1_stop e hv k
    have := sm_nn (os := os) (one := one) (two := two) (r := ((i + k : Nat) : Int)) os.length
    rw [← Nat.add_assoc, f1_succ, ih]
    unfold T
    split
    · show some _ = some v
      have : ¬ ((i + k : Nat) : Int) + sm os one two ((i + k : Nat) : Int) os.length < v := by omega
      rw [if_neg this]
    · rfl
abbrev lp (os : List Int) (places : Int) (b : Option Int) (L s4 s5 s6 s7 : Sl) : Pd.Env := [.v (iD os), .v (.int places), L, .v (obD b), s4, s5, s6, s7]
noncomputable abbrev pS : Sv := (sSeq (sIf (eAnd (eOpT fNotN (eVar 3) (eC .none)) (eOpT fGe (eVar 6) (eVar 3))) (sBk) (sNx))
  (sSeq (sSet 7 (eCall 4 fn_second_runs (aCons (eVar 0) (aCons (eVar 4) (aCons (eVar 6) (aCons (eVar 5) (aNil)))))))
  (sIf (eAnd (eOpT fNotN (eVar 7) (eC .none)) (eOr (eOpT fIsN (eVar 3) (eC .none)) (eOpT fLt (eOp fAdd (eVar 6) (eVar 7)) (eVar 3)))) (sSet 3 (eOp fAdd (eVar 6) (eVar 7))) (sNx))))
noncomputable abbrev pB1 : Sv := sFor (iRange rng1 (aCons (eOp fAdd (eBlt fMax (aCons (eVar 0) (aNil))) (eC (.int 1))) (aNil))) (tgN 6) pS
section
variable {os one two : List Int} {places : Nat} {b : Option Int} {L s4 s5 s6 s7 : Sl} {pl : Int}
theorem pbody (h : Ord os) (p : Pl os one places) (q : Pl os two places) {r : Int} (hr : 0 ≤ r) (hr2 : r ≤ 1000) (nb : ∀ v, b = some v → r < v) : ∃ t7, pS (lp os pl b L (.v (iD one)) (.v (iD two)) (.v (.int r)) s7) = .nx (lp os pl (mo b (T os one two r)) L (.v (iD one)) (.v (iD two)) (.v (.int r)) t7) := by
  have sr := second_ok h p q hr hr2
  unfold T
  by_cases c : bad os one two r = []
  · rw [if_pos c] at sr ⊢
    refine ⟨.v (.int (sm os one two r os.length)), ?_⟩
    unfold pS lp iD at *
    generalize sm os one two r os.length = z at *
    generalize os.map PyData.int = O at *
    generalize one.map PyData.int = A at *
    generalize two.map PyData.int = B at *
    cases b with
    | none =>
      unfold mo obD at *
      simp [fNotN, fIsN, isNone, sr]
    | some v =>
      have := nb v rfl
      have n1 : ¬ v ≤ r := by omega
      unfold mo obD at *
      by_cases c2 : r + z < v <;> simp [fNotN, fIsN, isNone, sr, n1, c2]
  · rw [if_neg c] at sr ⊢
    refine ⟨.v .none, ?_⟩
    have em : mo b none = b := by cases b <;> rfl
    rw [em]
    unfold pS lp iD at *
    generalize os.map PyData.int = O at *
    generalize one.map PyData.int = A at *
    generalize two.map PyData.int = B at *
    cases b with
    | none =>
      unfold obD at *
      simp [fNotN, fIsN, isNone, sr]
    | some v =>
      have := nb v rfl
      have n1 : ¬ v ≤ r := by omega
      unfold obD at *
      simp [fNotN, fIsN, isNone, sr, n1]
theorem ploop1 (h : Ord os) (p : Pl os one places) (q : Pl os two places) : ∃ t6 t7, pB1 (lp os pl b L (.v (iD one)) (.v (iD two)) s6 s7) = .nx (lp os pl (f1 os (top os) one two b) L (.v (iD one)) (.v (iD two)) t6 t7) := by
  obtain ⟨tp, m1, m2⟩ := top_i h
  have mt := max_t (ne_len (xs := os) (by have := h.l0; omega))
  have rg : rngOk (mxl os + 1) = true := rngOk_s (by omega) (by omega)
  obtain ⟨ρ', l, t6, t7, rfl⟩ := forF_bk (t := tgN 6) (S := pS) (f := fun j => PyData.int (0 + (j : Nat))) (n := top os) (fun i ρ => ∃ t6 t7, ρ = lp os pl (f1 os i one two b) L (.v (iD one)) (.v (iD two)) t6 t7) (fun ρ => ∃ t6 t7, ρ = lp os pl (f1 os (top os) one two b) L (.v (iD one)) (.v (iD two)) t6 t7) (by
    rintro i hi ρ ⟨t6, t7, rfl⟩
    refine ⟨lp os pl (f1 os i one two b) L (.v (iD one)) (.v (iD two)) (.v (.int (0 + (i : Nat)))) t7, rfl, ?_⟩
    rw [Int.zero_add]
    by_cases c : ∃ v, f1 os i one two b = some v ∧ v ≤ i
    · obtain ⟨v, e, hv⟩ := c
      right
      have st := f1_stop e hv (top os - i)
      rw [show i + (top os - i) = top os by omega] at st
      refine ⟨lp os pl (f1 os i one two b) L (.v (iD one)) (.v (iD two)) (.v (.int i)) t7, ?_, .v (.int i), t7, by rw [st, e]⟩
      rw [e]
      unfold pS lp obD iD at *
      generalize os.map PyData.int = O at *
      generalize one.map PyData.int = A at *
      generalize two.map PyData.int = B at *
      generalize (i : Int) = i at *
      simp [fNotN, isNone, hv]
    · left
      obtain ⟨u7, e⟩ := pbody (os := os) (one := one) (two := two) (places := places) (b := f1 os i one two b) (L := L) (s7 := t7) (pl := pl) h p q (r := (i : Int)) (by omega) (by omega) (fun v ev => by
        by_cases q : v ≤ i
        · exact absurd ⟨v, ev, q⟩ c
        · omega)
      rw [← f1_succ] at e
      exact ⟨_, .inl e, _, _, rfl⟩) (fun ρ hr => hr) (ρ := lp os pl b L (.v (iD one)) (.v (iD two)) s6 s7) ⟨_, _, rfl⟩
  rw [← rng_tab] at l
  refine ⟨t6, t7, ?_⟩
  have tn : (mxl os + 1).toNat = top os := rfl
  unfold pB1
  generalize pS = S at *
  unfold lp iD at *
  generalize mxl os = m at *
  generalize f1 os (top os) one two b = b2 at *
  generalize top os = N at *
  generalize obD b = bb at *
  generalize obD b2 = bb2 at *
  generalize os.map PyData.int = O at *
  generalize one.map PyData.int = A at *
  generalize two.map PyData.int = B at *
  simp [mt, rg, tn]
  exact l
theorem ploop2 (h : Ord os) (p : Pl os one places) {L : List (List Int)} (hL : ∀ x ∈ L, Pl os x places) (hLn : L.length ≤ 100000) : ∃ t5 t6 t7, (sFor (iSeq (eVar 2)) (tgN 5) pB1) (lp os pl b (.v (.list (L.map iD))) (.v (iD one)) s5 s6 s7) = .nx (lp os pl (f2 os (top os) L one b) (.v (.list (L.map iD))) (.v (iD one)) t5 t6 t7) := by
  obtain ⟨ρ', l, t5, t6, t7, rfl⟩ := forF_map (t := tgN 5) (S := pB1) iD (xs := L) (fun pre ρ => ∃ t5 t6 t7, ρ = lp os pl (f2 os (top os) pre one b) (.v (.list (L.map iD))) (.v (iD one)) t5 t6 t7) (by
    rintro pre x post e ρ ⟨t5, t6, t7, rfl⟩
    obtain ⟨u6, u7, e1⟩ := ploop1 (os := os) (one := one) (two := x) (places := places) (b := f2 os (top os) pre one b) (L := .v (.list (L.map iD))) (s6 := t6) (s7 := t7) (pl := pl) h p (hL x (by rw [e]; simp))
    have ef : f2 os (top os) (pre ++ [x]) one b = f1 os (top os) one x (f2 os (top os) pre one b) := by
      unfold f2
      rw [List.foldl_append]
      rfl
    rw [ef]
    exact ⟨_, _, rfl, .inl e1, _, _, _, rfl⟩) (ρ := lp os pl b (.v (.list (L.map iD))) (.v (iD one)) s5 s6 s7) ⟨_, _, _, rfl⟩
  refine ⟨t5, t6, t7, ?_⟩
  have ln : lineOk (L.map iD).length = true := by
    rw [List.length_map]
    exact lineOk_s (by omega)
  generalize pB1 = S at *
  unfold lp at *
  generalize f2 os (top os) L one b = b2 at *
  generalize obD b = bb at *
  generalize obD b2 = bb2 at *
  generalize L.map iD = LL at *
  generalize iD os = O at *
  generalize iD one = A at *
  simp [ln]
  exact l
end
theorem least_eb : bd_least_sum = sSeq (sIf (eNot (eB (eCall 3 fn_is_number (aCons (eVar 1) (aCons (eC (.int 1)) (aCons (eC (.int (4))) (aNil))))))) (sRaise "OutOfRange") (sNx))
  (sSeq (sIf (eOr (eOpT fGt (eBlt fLen (aCons (eVar 0) (aNil))) (eC (.int (3)))) (eOpT fGt (eBlt fMax (aCons (eVar 0) (aNil))) (eC (.int (60))))) (sRaise "TooMuch") (sNx))
  (sSeq (sSet 2 (eCall 2 fn_all_layouts (aCons (eBlt fLen (aCons (eVar 0) (aNil))) (aCons (eVar 1) (aNil)))))
  (sSeq (sSet 3 (eC .none))
  (sSeq (sFor (iSeq (eVar 2)) (tgN 4) (sFor (iSeq (eVar 2)) (tgN 5) pB1)) (sRet (eVar 3)))))) := rfl
theorem least_ok {os : List Int} {places : Nat} (h : Ord os) (p1 : 1 ≤ places) (hp : places ≤ 4) (h3 : os.length ≤ 3) (h60 : mxl os ≤ 60) : fn_least_sum [iD os, .int places] = .ret (obD (f3 os (top os) (lay places os.length) (lay places os.length) none)) [] := by
  have lo := len_iD os
  have mt := max_t (ne_len (xs := os) (by have := h.l0; omega))
  have nu := is_number_int places 1 4
  have ly := layouts_p (m := os.length) (places := places) (by omega) (by omega)
  have ln := lay_9 (places := places) (m := os.length) (by omega) (by omega)
  have hL : ∀ x ∈ lay places os.length, Pl os x places := fun x hx => lay_pl (by omega) hx
  obtain ⟨ρ', l, t4, t5, t6, t7, rfl⟩ := forF_map (t := tgN 4) (S := (sFor (iSeq (eVar 2)) (tgN 5) pB1)) iD (xs := lay places os.length) (fun pre ρ => ∃ t4 t5 t6 t7, ρ = lp os places (f3 os (top os) (lay places os.length) pre none) (.v (.list ((lay places os.length).map iD))) t4 t5 t6 t7) (by
    rintro pre x post e ρ ⟨t4, t5, t6, t7, rfl⟩
    obtain ⟨u5, u6, u7, e1⟩ := ploop2 (os := os) (one := x) (places := places) (b := f3 os (top os) (lay places os.length) pre none) (L := lay places os.length) (s5 := t5) (s6 := t6) (s7 := t7) (pl := places) h (hL x (by rw [e]; simp)) hL (by omega)
    have ef : f3 os (top os) (lay places os.length) (pre ++ [x]) none = f2 os (top os) (lay places os.length) x (f3 os (top os) (lay places os.length) pre none) := by
      unfold f3
      rw [List.foldl_append]
      rfl
    rw [ef]
    exact ⟨_, _, rfl, .inl e1, _, _, _, _, rfl⟩) (ρ := lp os places none (.v (.list ((lay places os.length).map iD))) .u .u .u .u) ⟨_, _, _, _, rfl⟩
  have lk : lineOk ((lay places os.length).map iD).length = true := by
    rw [List.length_map]
    exact lineOk_s (by omega)
  have n1 : (1 : Int) ≤ places := by omega
  have n2 : (places : Int) ≤ 4 := by omega
  have n3 : ¬ ((3 : Int) < os.length) := by omega
  have n4 : ¬ (60 < mxl os) := by omega
  rw [decide_eq_true n1, decide_eq_true n2] at nu
  unfold fn_least_sum toFn initE
  rw [least_eb]
  generalize sFor (iSeq (eVar 2)) (tgN 5) pB1 = S at *
  generalize f3 os (top os) (lay places os.length) (lay places os.length) none = b2 at *
  unfold lp iD obD at *
  simp at l nu
  generalize hR : (lay places os.length).map (fun xs : List Int => PyData.tuple (xs.map PyData.int)) = R at *
  generalize mxl os = m at *
  generalize os.map PyData.int = O at *
  simp [inSl, outsOf, ioIx, lo, ly, lk, nu, mt, n3, n4]
  rw [l]
  cases b2 <;> simp
theorem least_range {d : D} {places : Int} (h : ¬ (1 ≤ places ∧ places ≤ 4)) : fn_least_sum [d, .int places] = .ex "OutOfRange" [] := by
  have n := is_number_int places 1 4
  have : (decide (1 ≤ places) && decide (places ≤ 4)) = false := by
    rw [← Bool.decide_and]
    exact decide_eq_false h
  rw [this] at n
  unfold fn_least_sum toFn initE bd_least_sum
  simp [inSl, outsOf, ioIx, n]
theorem least_much {os : List Int} {places : Int} (h : 1 ≤ places ∧ places ≤ 4) (h0 : 0 < os.length) (h2 : 3 < os.length ∨ 60 < mxl os) : fn_least_sum [iD os, .int places] = .ex "TooMuch" [] := by
  have n := is_number_int places 1 4
  rw [decide_eq_true h.1, decide_eq_true h.2] at n
  have lo := len_iD os
  have mt := max_t (ne_len h0)
  unfold fn_least_sum toFn initE bd_least_sum
  unfold iD at *
  simp at n
  generalize mxl os = m at *
  generalize os.map PyData.int = O at *
  by_cases c : (3 : Int) < os.length
  · simp [inSl, outsOf, ioIx, n, lo, mt, c]
  · have c2 : 60 < m := by rcases h2 with q | q <;> omega
    simp [inSl, outsOf, ioIx, n, lo, mt, c, c2]
end K10
end
section
set_option Elab.async false
set_option linter.all false
set_option maxRecDepth 100000
set_option maxHeartbeats 4000000
namespace K10
open PySem L2 Pd
theorem told0 {o d : D} {p : Int} (h : fn_fewest_runs [o, .int p] = .ret d []) : fn__law_told [.int 0, o, .int p] = .ret d [] := by
  unfold fn__law_told toFn initE bd__law_told
  simp [inSl, outsOf, ioIx, h, km, isE, kn]
theorem told1 {o d : D} {p : Int} (h : fn_told_layout [o, .int p] = .ret d []) : fn__law_told [.int 1, o, .int p] = .ret d [] := by
  unfold fn__law_told toFn initE bd__law_told
  simp [inSl, outsOf, ioIx, h, km, isE, kn]
theorem told2 {o d : D} {p : Int} (h : fn_least_sum [o, .int p] = .ret d []) : fn__law_told [.int 2, o, .int p] = .ret d [] := by
  unfold fn__law_told toFn initE bd__law_told
  simp [inSl, outsOf, ioIx, h, km, isE, kn]
theorem told0x {o : D} {p : Int} (h : fn_fewest_runs [o, .int p] = .ex "OutOfRange" []) : fn__law_told [.int 0, o, .int p] = .ret (.str "range") [] := by
  have w := word_range
  unfold fn__law_told toFn initE bd__law_told
  simp [inSl, outsOf, ioIx, h, km, isE, kn, w]
theorem told1x {o : D} {p : Int} (h : fn_told_layout [o, .int p] = .ex "OutOfRange" []) : fn__law_told [.int 1, o, .int p] = .ret (.str "range") [] := by
  have w := word_range
  unfold fn__law_told toFn initE bd__law_told
  simp [inSl, outsOf, ioIx, h, km, isE, kn, w]
theorem told2x {o : D} {p : Int} (h : fn_least_sum [o, .int p] = .ex "OutOfRange" []) : fn__law_told [.int 2, o, .int p] = .ret (.str "range") [] := by
  have w := word_range
  unfold fn__law_told toFn initE bd__law_told
  simp [inSl, outsOf, ioIx, h, km, isE, kn, w]
theorem told2m {o : D} {p : Int} (h : fn_least_sum [o, .int p] = .ex "TooMuch" []) : fn__law_told [.int 2, o, .int p] = .ret (.str "much") [] := by
  have w := word_much
  unfold fn__law_told toFn initE bd__law_told
  simp [inSl, outsOf, ioIx, h, km, isE, kn, w]
/-! ### the least sum -/
theorem fold_flat {α β γ : Type} (f : γ → β → γ) (g : α → List β) : ∀ (xs : List α) (b : γ), (xs.flatMap g).foldl f b = xs.foldl (fun b x => (g x).foldl f b) b
  | [], b => rfl
  | x :: xs, b => by
    rw [List.flatMap_cons, List.foldl_append, List.foldl_cons]
    exact fold_flat f g xs _
theorem mo_spec : ∀ (xs : List (Option Int)) (b : Option Int), (xs.foldl mo b = none ↔ b = none ∧ ∀ x ∈ xs, x = none) ∧ (∀ v, xs.foldl mo b = some v → (b = some v ∨ some v ∈ xs) ∧ ∀ w, b = some w ∨ some w ∈ xs → v ≤ w)
  | [], b => by
    refine ⟨by simp, fun v e => ⟨.inl e, fun w hw => ?_⟩⟩
    rcases hw with hw | hw
    · have e : b = some v := e
      rw [e] at hw
      cases hw
      exact Int.le_refl _
    · cases hw
  | x :: xs, b => by
    obtain ⟨i1, i2⟩ := mo_spec xs (mo b x)
    rw [List.foldl_cons]
    refine ⟨?_, fun v e => ?_⟩
    · rw [i1]
      cases b <;> cases x <;> simp [mo]
    · obtain ⟨j1, j2⟩ := i2 v e
      cases b with
      | none =>
        cases x with
        | none =>
          simp only [mo] at j1 j2
          refine ⟨?_, fun w hw => ?_⟩
          · rcases j1 with j | j
            · cases j
            · exact .inr (List.mem_cons_of_mem _ j)
          · rcases hw with hw | hw
            · cases hw
            · rcases List.mem_cons.mp hw with q | q
              · cases q
              · exact j2 w (.inr q)
        | some y =>
          simp only [mo] at j1 j2
          refine ⟨?_, fun w hw => ?_⟩
          · rcases j1 with j | j
            · exact .inr (by rw [j]; exact List.mem_cons_self ..)
            · exact .inr (List.mem_cons_of_mem _ j)
          · rcases hw with hw | hw
            · cases hw
            · rcases List.mem_cons.mp hw with q | q
              · exact j2 w (.inl q.symm)
              · exact j2 w (.inr q)
      | some c =>
        cases x with
        | none =>
          simp only [mo] at j1 j2
          refine ⟨?_, fun w hw => ?_⟩
          · rcases j1 with j | j
            · exact .inl j
            · exact .inr (List.mem_cons_of_mem _ j)
          · rcases hw with hw | hw
            · exact j2 w (.inl hw)
            · rcases List.mem_cons.mp hw with q | q
              · cases q
              · exact j2 w (.inr q)
        | some y =>
          simp only [mo] at j1 j2
          have jv := j2 (if y < c then y else c) (.inl rfl)
          refine ⟨?_, fun w hw => ?_⟩
          · rcases j1 with j | j
            · split at j
              · exact .inr (by rw [j]; exact List.mem_cons_self ..)
              · exact .inl j
            · exact .inr (List.mem_cons_of_mem _ j)
          · rcases hw with hw | hw
            · cases hw
              split at jv <;> omega
            · rcases List.mem_cons.mp hw with q | q
              · cases q
                split at jv <;> omega
              · exact j2 w (.inr q)
noncomputable def trs (os : List Int) (N : Nat) (L M : List (List Int)) : List (Option Int) := M.flatMap fun one => L.flatMap fun two => (List.range N).map fun r : Nat => T os one two r
theorem f3_eq {os : List Int} {N : Nat} {L M : List (List Int)} {b : Option Int} : f3 os N L M b = (trs os N L M).foldl mo b := by
  unfold f3 trs
  rw [fold_flat]
  congr 1
  funext b one
  unfold f2
  rw [fold_flat]
  congr 1
  funext b two
  unfold f1
  rw [List.foldl_map]
theorem trs_mem {os : List Int} {N : Nat} {L M : List (List Int)} {x : Option Int} : x ∈ trs os N L M ↔ ∃ one ∈ M, ∃ two ∈ L, ∃ r : Nat, r < N ∧ T os one two r = x := by
  unfold trs
  simp only [List.mem_flatMap, List.mem_map, List.mem_range]
noncomputable abbrev best (os : List Int) (places : Nat) : Option Int := f3 os (top os) (lay places os.length) (lay places os.length) none
theorem best_le {os one two : List Int} {places r : Nat} {v : Int} (h1 : one ∈ lay places os.length) (h2 : two ∈ lay places os.length) (hr : r < top os) (e : T os one two r = some v) : ∃ w, best os places = some w ∧ w ≤ v := by
  obtain ⟨a, b⟩ := mo_spec (trs os (top os) (lay places os.length) (lay places os.length)) none
  have m : some v ∈ trs os (top os) (lay places os.length) (lay places os.length) := trs_mem.mpr ⟨one, h1, two, h2, r, hr, e⟩
  unfold best
  rw [f3_eq]
  cases c : (trs os (top os) (lay places os.length) (lay places os.length)).foldl mo none with
  | none =>
    have := (a.mp c).2 _ m
    cases this
  | some w => exact ⟨w, rfl, (b w c).2 v (.inr m)⟩
theorem best_ex {os : List Int} {places : Nat} {v : Int} (e : best os places = some v) : ∃ one two : List Int, ∃ r : Nat, one ∈ lay places os.length ∧ two ∈ lay places os.length ∧ T os one two r = some v := by
  obtain ⟨a, b⟩ := mo_spec (trs os (top os) (lay places os.length) (lay places os.length)) none
  unfold best at e
  rw [f3_eq] at e
  rcases (b v e).1 with q | q
  · cases q
  · obtain ⟨one, h1, two, h2, r, hr, e⟩ := trs_mem.mp q
    exact ⟨one, two, r, h1, h2, e⟩
theorem T_some {os one two : List Int} {r v : Int} (e : T os one two r = some v) : bad os one two r = [] ∧ v = r + sm os one two r os.length := by
  unfold T at e
  split at e
  · rename_i c
    cases e
    exact ⟨c, rfl⟩
  · cases e
theorem T_of {os one two : List Int} {r : Int} (h : ∀ k, k < os.length → 0 < lf1 os one r k → two.getD k 0 ≠ 0) : T os one two r = some (r + sm os one two r os.length) := by
  unfold T
  rw [if_pos (bad_nil.mpr fun k hk => by
    unfold bk
    by_cases c : 0 < lf1 os one r k
    · rw [decide_eq_false (h k hk c), Bool.and_false]
    · rw [decide_eq_false c, Bool.false_and])]
theorem sm_ge {os one two : List Int} {r : Int} : ∀ {n k : Nat}, k < n → 0 < lf1 os one r k → cdiv (lf1 os one r k) (two.getD k 0) ≤ sm os one two r n
  | n + 1, k, hk, h => by
    rw [sm]
    by_cases c : k = n
    · subst c
      rw [if_pos h]
      split <;> omega
    · have := sm_ge (os := os) (one := one) (two := two) (r := r) (n := n) (k := k) (by omega) h
      split
      · split <;> omega
      · exact this
theorem sm_le {os one two : List Int} {r z : Int} (hz : 0 ≤ z) : ∀ {n : Nat}, (∀ k, k < n → 0 < lf1 os one r k → cdiv (lf1 os one r k) (two.getD k 0) ≤ z) → sm os one two r n ≤ z
  | 0, _ => hz
  | n + 1, h => by
    have ih := sm_le (os := os) (one := one) (two := two) (r := r) hz (n := n) fun k hk => h k (by omega)
    rw [sm]
    split
    · rename_i c
      have := h n (by omega) c
      split <;> omega
    · exact ih
theorem T_have {os one two : List Int} {r v : Int} {places : Nat} (h : Ord os) (p : Pl os one places) (q : Pl os two places) (e : T os one two r = some v) {k : Nat} (hk : k < os.length) : os.getD k 0 ≤ r * one.getD k 0 + (v - r) * two.getD k 0 := by
  obtain ⟨hb, hv⟩ := T_some e
  have es : v - r = sm os one two r os.length := by omega
  have nn := sm_nn (os := os) (one := one) (two := two) (r := r) os.length
  have q2 := q.at hk
  have m := Int.mul_nonneg nn q2.1
  rw [es]
  by_cases c : 0 < os.getD k 0 - r * one.getD k 0
  · have el : lf1 os one r k = os.getD k 0 - r * one.getD k 0 := if_pos c
    have hl : 0 < lf1 os one r k := by omega
    have g := sm_ge (two := two) hk hl
    have nz : two.getD k 0 ≠ 0 := fun z => by
      have := bad_nil.mp hb k hk
      unfold bk at this
      rw [decide_eq_true hl, decide_eq_true z] at this
      cases this
    rw [cd_le (by omega)] at g
    omega
  · omega
theorem sum_two {os one two : List Int} (a b : Int) (h1 : one.length = os.length) (h2 : two.length = os.length) (h : ∀ k, k < os.length → os.getD k 0 ≤ a * one.getD k 0 + b * two.getD k 0) : os.sum ≤ a * one.sum + b * two.sum := by
  have e1 := rng_get os
  have e2 := rng_get one
  have e3 := rng_get two
  rw [h1] at e2
  rw [h2] at e3
  have l : ∀ (ks : List Nat), (∀ k ∈ ks, os.getD k 0 ≤ a * one.getD k 0 + b * two.getD k 0) → (ks.map fun k => os.getD k 0).sum ≤ a * (ks.map fun k => one.getD k 0).sum + b * (ks.map fun k => two.getD k 0).sum := by
    intro ks
    induction ks with
    | nil => intro _; simp
    | cons k ks ih =>
      intro hh
      have i := ih fun j hj => hh j (List.mem_cons_of_mem _ hj)
      have j := hh k (List.mem_cons_self ..)
      simp only [List.map_cons, List.sum_cons]
      have ea : a * (one.getD k 0 + (ks.map fun k => one.getD k 0).sum) = a * one.getD k 0 + a * (ks.map fun k => one.getD k 0).sum := Int.mul_add ..
      have eb : b * (two.getD k 0 + (ks.map fun k => two.getD k 0).sum) = b * two.getD k 0 + b * (ks.map fun k => two.getD k 0).sum := Int.mul_add ..
      rw [ea, eb]
      omega
  have := l (List.range os.length) fun k hk => h k (List.mem_range.mp hk)
  rw [e1, e2, e3] at this
  exact this
/-- a sum is not less than all need -/
theorem best_ge {os : List Int} {places : Nat} (h : Ord os) (p1 : 1 ≤ places) (hp : places ≤ 12) {v : Int} (e : best os places = some v) : cdiv os.sum places ≤ v := by
  obtain ⟨one, two, r, h1, h2, et⟩ := best_ex e
  have p := lay_pl hp h1
  have q := lay_pl hp h2
  obtain ⟨_, hv⟩ := T_some et
  have nn := sm_nn (os := os) (one := one) (two := two) (r := (r : Int)) os.length
  have s := sum_two (r : Int) (v - r) p.l q.l fun k hk => T_have h p q et hk
  rw [cd_le (by omega)]
  have a1 := Int.mul_le_mul_of_nonneg_left p.s (show (0 : Int) ≤ r by omega)
  have a2 := Int.mul_le_mul_of_nonneg_left q.s (show 0 ≤ v - r by omega)
  have e1 : (r : Int) * places + (v - r) * places = v * places := by grind
  omega
/-- two plates do no worse than one -/
theorem best_one {os : List Int} {places : Nat} (h : Ord os) (hp : places ≤ 12) (hl : os.length ≤ places) {R : Int} (f : Fw os places R) : ∃ v, best os places = some v ∧ v ≤ R := by
  have fp := f.p
  have l0 := h.l0
  have np : ∀ x ∈ nd os R, 1 ≤ x := fun x hx => by
    unfold nd at hx
    obtain ⟨o, ho, rfl⟩ := List.mem_map.mp hx
    exact cd_pos (h.o o ho).1 (by omega)
  have m : nd os R ∈ lay places os.length := lay_mem.mpr ⟨nd_len, fun x hx => by have := np x hx; omega, f.s⟩
  have pl := lay_pl hp m
  have el : ∀ k, k < os.length → lf1 os (nd os R) 0 k = os.getD k 0 := fun k hk => by
    have := h.o _ (get_mem hk)
    unfold lf1
    rw [Int.zero_mul, Int.sub_zero, if_pos (by omega)]
  have et := T_of (os := os) (one := nd os R) (two := nd os R) (r := 0) fun k hk _ => by
    have := np _ (get_mem (xs := nd os R) (k := k) (by rw [nd_len]; exact hk))
    omega
  obtain ⟨tp, t1, _⟩ := top_i h
  obtain ⟨w, e, hw⟩ := best_le (r := 0) m m (by omega) et
  refine ⟨w, e, Int.le_trans hw ?_⟩
  rw [Int.zero_add]
  refine sm_le (by omega) fun k hk _ => ?_
  rw [el k hk]
  have := (rn_le (os := os) (row := nd os R) (r := R) (by omega)).mp ((rn_nd (by omega) nd_len np fp).mpr fun k _ => Int.le_refl _) k hk
  exact this
/-! ### when there are no two plates -/
theorem ones_sum (p : Nat) : ∀ n : Nat, ((List.range n).map fun k => if k < p then (1 : Int) else 0).sum = (min n p : Nat) ∧ ((List.range n).map fun k => if k < p then (0 : Int) else 1).sum = (n - p : Nat)
  | 0 => by simp
  | n + 1 => by
    obtain ⟨a, b⟩ := ones_sum p n
    rw [List.range_succ, List.map_append, List.map_append, List.sum_append, List.sum_append, a, b]
    by_cases c : n < p
    · simp [c]
      omega
    · simp [c]
      omega
theorem get_rng {f : Nat → Int} {n k : Nat} (h : k < n) : ((List.range n).map f).getD k 0 = f k := by
  rw [List.getD_eq_getElem?_getD, List.getElem?_map, List.getElem?_range h]
  rfl
theorem best_none {os : List Int} {places : Nat} (h : Ord os) (p1 : 1 ≤ places) (hp : places ≤ 12) : best os places = none ↔ 2 * places < os.length := by
  constructor
  · intro e
    by_cases c : 2 * places < os.length
    · exact c
    · exfalso
      obtain ⟨tp, t1, _⟩ := top_i h
      obtain ⟨s1, s2⟩ := ones_sum places os.length
      have m1 : ((List.range os.length).map fun k => if k < places then (1 : Int) else 0) ∈ lay places os.length := lay_mem.mpr ⟨by simp, fun x hx => by
        obtain ⟨k, _, rfl⟩ := List.mem_map.mp hx
        split <;> omega, by rw [s1]; omega⟩
      have m2 : ((List.range os.length).map fun k => if k < places then (0 : Int) else 1) ∈ lay places os.length := lay_mem.mpr ⟨by simp, fun x hx => by
        obtain ⟨k, _, rfl⟩ := List.mem_map.mp hx
        split <;> omega, by rw [s2]; omega⟩
      have et := T_of (os := os) (one := (List.range os.length).map fun k => if k < places then (1 : Int) else 0) (two := (List.range os.length).map fun k => if k < places then (0 : Int) else 1) (r := ((mxl os).toNat : Nat)) fun k hk hl => by
        rw [get_rng hk]
        split
        · rename_i c2
          have mk := mxl_le (get_mem hk)
          unfold lf1 at hl
          rw [get_rng hk, if_pos c2] at hl
          split at hl <;> omega
        · omega
      obtain ⟨w, e2, _⟩ := best_le m1 m2 (by omega) et
      rw [e] at e2
      cases e2
  · intro c
    cases e : best os places with
    | none => rfl
    | some v =>
      exfalso
      obtain ⟨one, two, r, h1, h2, et⟩ := best_ex e
      have p := lay_pl hp h1
      have q := lay_pl hp h2
      have s := sum_two (os := List.replicate os.length 1) (one := one) (two := two) 1 1 (by simp [p.l]) (by simp [q.l]) fun k hk => by
        rw [List.length_replicate] at hk
        have t := T_have h p q et hk
        have o := h.o _ (get_mem hk)
        have p2 := p.at hk
        have q2 := q.at hk
        have e1 : (List.replicate os.length (1 : Int)).getD k 0 = 1 := by
          rw [List.getD_eq_getElem?_getD, List.getElem?_replicate, if_pos hk]
          rfl
        rw [e1]
        by_cases z : one.getD k 0 = 0 ∧ two.getD k 0 = 0
        · rw [z.1, z.2, Int.mul_zero, Int.mul_zero] at t
          omega
        · omega
      have es : (List.replicate os.length (1 : Int)).sum = os.length := by simp
      rw [es] at s
      have := p.s
      have := q.s
      omega
theorem ord_2 : Ord [60, 40] := ⟨by decide, by decide, by decide⟩
theorem ord_3 : Ord [1, 1, 1] := ⟨by decide, by decide, by decide⟩
theorem best_50 : best [60, 40] 2 = some 50 := by
  have m1 : ([1, 1] : List Int) ∈ lay 2 ([60, 40] : List Int).length := lay_mem.mpr ⟨rfl, by decide, by decide⟩
  have m2 : ([2, 0] : List Int) ∈ lay 2 ([60, 40] : List Int).length := lay_mem.mpr ⟨rfl, by decide, by decide⟩
  have et : T [60, 40] [1, 1] [2, 0] ((40 : Nat) : Int) = some 50 := by
    unfold T
    rw [if_pos (by decide)]
    exact congrArg some (by decide)
  obtain ⟨w, e, hw⟩ := best_le m1 m2 (by decide) et
  have g := best_ge ord_2 (by decide) (by decide) e
  have c : cdiv ([60, 40] : List Int).sum ((2 : Nat) : Int) = 50 := by decide
  rw [c] at g
  rw [e]
  congr 1
  omega
theorem c_50 : fn__law_told [.int 2, .tuple [.int 60, .int 40], .int 2] = .ret (.int 50) [] := by
  have l := least_ok (places := 2) ord_2 (by decide) (by decide) (by decide) (by decide)
  have b := best_50
  unfold best at b
  rw [b] at l
  exact told2 l
theorem c_none : fn__law_told [.int 2, .tuple [.int 1, .int 1, .int 1], .int 1] = .ret .none [] := by
  have l := least_ok (places := 1) ord_3 (by decide) (by decide) (by decide) (by decide)
  have b := (best_none (places := 1) ord_3 (by decide) (by decide)).mpr (by decide)
  unfold best at b
  rw [b] at l
  exact told2 l
end K10
end
section
set_option Elab.async false
set_option linter.all false
set_option maxRecDepth 100000
set_option maxHeartbeats 4000000
namespace K10
open PySem L2 Pd
theorem says_ok (a b : Bool) : fn__law_says [.bool a, .bool b] = .ret (.bool (a == b)) [] := by
  unfold fn__law_says toFn initE bd__law_says
  simp [inSl, outsOf, ioIx]
def Good (o : SOut) : Prop := ∃ ρ, o = .rt (.v (.bool true)) ρ
theorem good_seq {S R : Sv} {ρ ρ1 : Pd.Env} (h : S ρ = .nx ρ1) (h2 : Good (R ρ1)) : Good (sSeq S R ρ) := by
  rw [y_seq, h]
  exact h2
theorem seq_nx {S R : Sv} {ρ ρ1 ρ2 : Pd.Env} (h : S ρ = .nx ρ1) (h2 : R ρ1 = .nx ρ2) : sSeq S R ρ = .nx ρ2 := by
  rw [y_seq, h]
  exact h2
theorem alike_int2 (x y : Int) : PySem.W.alike (.int x) (.int y) = true := by simp [PySem.W.alike]
/-- rows that are not less anywhere come behind -/
theorem lt_rows : ∀ {xs ys : List Int}, xs.length = ys.length → (∀ k, k < xs.length → xs.getD k 0 ≤ ys.getD k 0) → ys = xs ∨ PySem.W.dataLt (iD xs) (iD ys) = true
  | [], [], _, _ => .inl rfl
  | x :: xs, y :: ys, e, h => by
    have h0 := h 0 (by simp)
    simp at h0
    have ih := lt_rows (xs := xs) (ys := ys) (by simpa using e) fun k hk => by
      have := h (k + 1) (by simp; omega)
      simpa using this
    unfold iD at *
    rw [List.map_cons, List.map_cons, PySem.W.dataLt_tuple]
    by_cases c : x = y
    · rw [PySem.W.dataLt_all_yes (alike_int2 _ _) (by rw [eqv_int, decide_eq_true c]), ← PySem.W.dataLt_tuple]
      rcases ih with q | q
      · exact .inl (by rw [q, c])
      · exact .inr q
    · rw [PySem.W.dataLt_all_no (alike_int2 _ _) (by rw [eqv_int, decide_eq_false c]), PySem.W.dataLt_int]
      exact .inr (decide_eq_true (by omega))
def rr (os row : List Int) : D := .tuple [.int (rn os row), iD row]
theorem rr_lt {os row row' : List Int} (h : rn os row < rn os row' ∨ rn os row = rn os row' ∧ PySem.W.dataLt (iD row) (iD row') = true) (hn : row ≠ row') : PySem.W.dataLt (rr os row) (rr os row') = true := by
  unfold rr
  rw [PySem.W.dataLt_tuple]
  rcases h with h | ⟨h1, h2⟩
  · rw [PySem.W.dataLt_all_no (alike_int2 _ _) (by rw [eqv_int, decide_eq_false (by omega)]), PySem.W.dataLt_int]
    exact decide_eq_true h
  · rw [PySem.W.dataLt_all_yes (alike_int2 _ _) (by rw [eqv_int, decide_eq_true h1])]
    have ne : PyData.eqv (iD row) (iD row') = false := by
      unfold iD
      have := eqvAll_ints row row'
      rw [decide_eq_false hn] at this
      exact this
    have al : PySem.W.alike (iD row) (iD row') = true := by
      unfold iD
      have : ∀ xs ys : List Int, PySem.W.alikeAll (xs.map PyData.int) (ys.map PyData.int) = true := by
        intro xs
        induction xs with
        | nil => intro ys; cases ys <;> simp [PySem.W.alikeAll]
        | cons x xs ih => intro ys; cases ys <;> simp [PySem.W.alikeAll, PySem.W.alike, ih]
      have t := this row row'
      simpa [PySem.W.alike] using t
    rw [PySem.W.dataLt_all_no al ne]
    exact h2
theorem alike_rows (os : List Int) (L : List (List Int)) : alikeB (L.map (rr os)) = true := by
  have al : ∀ xs ys : List Int, PySem.W.alikeAll (xs.map PyData.int) (ys.map PyData.int) = true := by
    intro xs
    induction xs with
    | nil => intro ys; cases ys <;> simp [PySem.W.alikeAll]
    | cons x xs ih => intro ys; cases ys <;> simp [PySem.W.alikeAll, PySem.W.alike, ih]
  have f : fitAll 60 (L.map (rr os)) = true := by
    induction L with
    | nil => rfl
    | cons r L ih =>
      rw [List.map_cons, fitAll, ih, Bool.and_true]
      unfold rr
      have := fit_ints_ 57 r
      show (fit 59 (.int (rn os r)) && (fitAll 58 (r.map PyData.int) && true)) = true
      rw [fit_ints_]
      rfl
  unfold alikeB
  rw [f, Bool.and_true, Bool.and_eq_true, List.all_eq_true, List.all_eq_true]
  refine ⟨fun x hx => List.all_eq_true.mpr fun y hy => ?_, fun x hx => ?_⟩
  · obtain ⟨a, _, rfl⟩ := List.mem_map.mp hx
    obtain ⟨b, _, rfl⟩ := List.mem_map.mp hy
    have := al a b
    simp [rr, iD, PySem.W.alike, PySem.W.alikeAll, this]
  · obtain ⟨a, _, rfl⟩ := List.mem_map.mp hx
    rfl
/-- rows without a label left out -/
def fulls (os : List Int) (places : Nat) : List (List Int) := (lay places os.length).filter fun row => !decide (0 ∈ row)
theorem fulls_mem {os row : List Int} {places : Nat} : row ∈ fulls os places ↔ row.length = os.length ∧ (∀ x ∈ row, 1 ≤ x) ∧ row.sum ≤ places := by
  unfold fulls
  rw [List.mem_filter, lay_mem]
  constructor
  · rintro ⟨⟨a, b, c⟩, d⟩
    refine ⟨a, fun x hx => ?_, c⟩
    have := b x hx
    have : x ≠ 0 := fun e => by
      rw [e] at hx
      rw [decide_eq_true hx] at d
      cases d
    omega
  · rintro ⟨a, b, c⟩
    refine ⟨⟨a, fun x hx => by have := b x hx; omega, c⟩, ?_⟩
    rw [decide_eq_false fun z => by have := b 0 z; omega]
    rfl
theorem sum_ge {xs : List Int} (h : ∀ x ∈ xs, 1 ≤ x) : (xs.length : Int) ≤ xs.sum := by
  induction xs with
  | nil => simp
  | cons x xs ih =>
    have := ih fun y hy => h y (List.mem_cons_of_mem _ hy)
    have := h x (List.mem_cons_self ..)
    simp only [List.length_cons, List.sum_cons]
    omega
theorem fulls_none {os : List Int} {places : Nat} (h : places < os.length) : fulls os places = [] := by
  cases e : fulls os places with
  | nil => rfl
  | cons r rs =>
    have m : r ∈ fulls os places := by rw [e]; exact List.mem_cons_self ..
    obtain ⟨a, b, c⟩ := fulls_mem.mp m
    have := sum_ge b
    omega
theorem nd_pos {os : List Int} (h : Ord os) {R : Int} (hr : 1 ≤ R) : ∀ x ∈ nd os R, 1 ≤ x := fun x hx => by
  unfold nd at hx
  obtain ⟨o, ho, rfl⟩ := List.mem_map.mp hx
  exact cd_pos (h.o o ho).1 (by omega)
theorem rn_fw {os : List Int} (h : Ord os) {places R : Int} (f : Fw os places R) : rn os (nd os R) = R := by
  have l0 := h.l0
  have fp := f.p
  have u := (rn_nd (os := os) (row := nd os R) (r := R) (by omega) nd_len (nd_pos h fp) fp).mpr fun k _ => Int.le_refl _
  have v := fw_rn h f nd_len (nd_pos h fp) f.s
  omega
theorem sort_rows {os : List Int} (h : Ord os) {places : Nat} {R : Int} (f : Fw os places R) : ∃ es, ((fulls os places).map (rr os)).mergeSort dLe = rr os (nd os R) :: es := by
  have l0 := h.l0
  have fp := f.p
  refine sort_first (List.mem_map.mpr ⟨nd os R, fulls_mem.mpr ⟨nd_len, nd_pos h fp, f.s⟩, rfl⟩) fun d hd => ?_
  obtain ⟨row, hr, rfl⟩ := List.mem_map.mp hd
  obtain ⟨a, b, c⟩ := fulls_mem.mp hr
  by_cases e : nd os R = row
  · exact .inl (by rw [e])
  · right
    refine rr_lt ?_ e
    rw [rn_fw h f]
    have v := fw_rn h f a b c
    rcases (by omega : R < rn os row ∨ R = rn os row) with q | q
    · exact .inl q
    · right
      refine ⟨q, ?_⟩
      have d := (rn_nd (os := os) (row := row) (r := R) (by omega) a b fp).mp (by omega)
      rcases lt_rows (xs := nd os R) (ys := row) (by rw [nd_len, a]) fun k hk => d k (by rw [nd_len] at hk; exact hk) with z | z
      · exact absurd z.symm e
      · exact z
end K10
end
section
set_option Elab.async false
set_option linter.all false
set_option maxRecDepth 100000
set_option maxHeartbeats 4000000
namespace K10
open PySem L2 Pd
noncomputable abbrev L0 : Sv := sSet 1 (eCall 1 fn__law_draws (aCons (eVar 0) (aNil)))
noncomputable abbrev L1 : Sv := sSet 2 (eOp (fIx false) (eLst (aCons (eC (.int 4)) (aCons (eC (.int 30)) (aCons (eC (.int 500)) (aNil))))) (eCallM [true, false] fn__law_take (aCons (eVar 1) (aCons (eC (.int 3)) (aNil)))))
noncomputable abbrev L2 : Sv := sSet 3 (eBlt fTuple (aCons (eLc [18] (tgN 18) (tTrue) (eOp fAdd (eC (.int 1)) (eCallM [true, false] fn__law_take (aCons (eVar 1) (aCons (eVar 2) (aNil))))) (iRange rng1 (aCons (eOp fAdd (eC (.int 1)) (eCallM [true, false] fn__law_take (aCons (eVar 1) (aCons (eC (.int 4)) (aNil))))) (aNil)))) (aNil)))
noncomputable abbrev L3 : Sv := sSet 4 (eBlt fLen (aCons (eVar 3) (aNil)))
noncomputable abbrev L4 : Sv := sIf (eNot (eB (eCall 2 fn__law_says (aCons (eCall 1 fn_are_orders (aCons (eVar 3) (aNil))) (aCons (eC (.bool true)) (aNil)))))) (sRet (eC (.bool false))) (sNx)
noncomputable abbrev L5 : Sv := sSet 5 (eC .none)
noncomputable abbrev L6 : Sv := sFor (iRange rng2 (aCons (eC (.int 1)) (aCons (eC (.int 9)) (aNil)))) (tgN 6) (sSeq (sSet 12 (eBlt fSortI (aCons (eLc [13] (tgN 13) (eOpT (fNotIn false) (eC (.int 0)) (eVar 13)) (eTup (aCons (eCall 2 fn__law_runs (aCons (eVar 3) (aCons (eVar 13) (aNil)))) (aCons (eVar 13) (aNil)))) (iSeq (eCall 2 fn__law_layouts (aCons (eVar 4) (aCons (eVar 6) (aNil)))))) (aNil))))
  (sSeq (sSet 9 (eIf (eOpT fNe (eVar 12) (eLst (aNil))) (eOp (fIx false) (eVar 12) (eC (.int 0))) (eTup (aCons (eC .none) (aCons (eC .none) (aNil))))))
  (sSeq (sIf (eOr (eNot (eB (eCall 2 fn__law_alike (aCons (eLst (aCons (eCall 3 fn__law_told (aCons (eC (.int 0)) (aCons (eVar 3) (aCons (eVar 6) (aNil))))) (aCons (eCall 3 fn__law_told (aCons (eC (.int 1)) (aCons (eVar 3) (aCons (eVar 6) (aNil))))) (aNil)))) (aCons (eLst (aCons (eOp (fIx false) (eVar 9) (eC (.int 0))) (aCons (eOp (fIx false) (eVar 9) (eC (.int 1))) (aNil)))) (aNil)))))) (eOpT fNe (eOp (boolRes fEq) (eVar 12) (eLst (aNil))) (eOp (boolRes fLt) (eVar 6) (eVar 4)))) (sRet (eC (.bool false))) (sNx))
  (sIf (eOpT fNe (eVar 12) (eLst (aNil))) (sSeq (sSet 17 (eBlt fMax (aCons (eOp fDiv (eOp fSub (eOp fAdd (eBlt fSum (aCons (eVar 3) (aNil))) (eVar 6)) (eC (.int 1))) (eVar 6)) (aCons (eOp fDiv (eOp fSub (eOp fAdd (eBlt fMax (aCons (eVar 3) (aNil))) (eVar 6)) (eVar 4)) (eOp fAdd (eOp fSub (eVar 6) (eVar 4)) (eC (.int 1)))) (aNil)))))
  (sSeq (sIf (eOr (eOpT fLt (eOp (fIx false) (eVar 9) (eC (.int 0))) (eVar 17)) (eOr (eAnd (eOpT fNotN (eVar 5) (eC .none)) (eOpT fGt (eOp (fIx false) (eVar 9) (eC (.int 0))) (eVar 5))) (eOpT fNe (eCall 2 fn__law_given (aCons (eVar 3) (aCons (eVar 6) (aNil)))) (eOp (fIx false) (eVar 9) (eC (.int 0)))))) (sRet (eC (.bool false))) (sNx))
  (sSeq (sIf (eOr (eOpT fNe (eLc [22] (tgN 22) (eOpT fLe (eBlt fSum (aCons (eLc [19] (tgN 19) (tTrue) (eOp fDiv (eOp fSub (eOp fAdd (eVar 19) (eVar 22)) (eC (.int 1))) (eVar 22)) (iSeq (eVar 3))) (aNil))) (eVar 6)) (eVar 22) (iRange rng2 (aCons (eC (.int 1)) (aCons (eBlt fMin (aCons (eOp (fIx false) (eVar 9) (eC (.int 0))) (aCons (eC (.int 40)) (aNil)))) (aNil))))) (eLst (aNil))) (eOpT fGt (eBlt fSum (aCons (eLc [19] (tgN 19) (tTrue) (eOp fDiv (eOp fSub (eOp fAdd (eVar 19) (eOp (fIx false) (eVar 9) (eC (.int 0)))) (eC (.int 1))) (eOp (fIx false) (eVar 9) (eC (.int 0)))) (iSeq (eVar 3))) (aNil))) (eVar 6))) (sRet (eC (.bool false))) (sNx))
  (sSet 5 (eOp (fIx false) (eVar 9) (eC (.int 0))))))) (sNx)))))
noncomputable abbrev L7 : Sv := sFor (iRange rng1 (aCons (eC (.int 6)) (aNil))) (tgN 7) (sSeq (sSet 6 (eOp fAdd (eC (.int 1)) (eCallM [true, false] fn__law_take (aCons (eVar 1) (aCons (eC (.int 12)) (aNil))))))
  (sSeq (sSet 13 (eBlt fTuple (aCons (eLc [18] (tgN 18) (tTrue) (eCallM [true, false] fn__law_take (aCons (eVar 1) (aCons (eC (.int 5)) (aNil)))) (iSeq (eVar 3))) (aNil))))
  (sSeq (sIf (eNot (eB (eCall 2 fn__law_says (aCons (eCall 3 fn_is_layout (aCons (eVar 3) (aCons (eVar 6) (aCons (eVar 13) (aNil))))) (aCons (eAndV (eOp (boolRes fLe) (eBlt fSum (aCons (eVar 13) (aNil))) (eVar 6)) (eOp (boolRes fLe) (eBlt fMax (aCons (eVar 13) (aNil))) (eVar 6))) (aNil)))))) (sRet (eC (.bool false))) (sNx))
  (sSeq (sSet 14 (eCall 2 fn__law_runs (aCons (eVar 3) (aCons (eVar 13) (aNil)))))
  (sSeq (sSet 15 (eIf (eOpT fNotN (eVar 14) (eC .none)) (eBlt fSum (aCons (eLc [22] (tgN 22) (tTrue) (eOp fSub (eOp fMul (eVar 14) (eOp (fIx false) (eVar 13) (eVar 22))) (eOp (fIx false) (eVar 3) (eVar 22))) (iRange rng1 (aCons (eVar 4) (aNil)))) (aNil))) (eC .none)))
  (sIf (eNot (eB (eCall 2 fn__law_alike (aCons (eLst (aCons (eCall 2 fn_runs_of (aCons (eVar 3) (aCons (eVar 13) (aNil)))) (aCons (eCall 2 fn_waste_of (aCons (eVar 3) (aCons (eVar 13) (aNil)))) (aNil)))) (aCons (eLst (aCons (eVar 14) (aCons (eVar 15) (aNil)))) (aNil)))))) (sRet (eC (.bool false))) (sNx)))))))
noncomputable abbrev L8 : Sv := sIf (eOpT fLt (eVar 2) (eC (.int 500))) (sSeq (sSet 16 (eBlt fTuple (aCons (eLc [19] (tgN 19) (tTrue) (eOp fMul (eC (.int 2)) (eVar 19)) (iSeq (eVar 3))) (aNil))))
  (sIf (eOpT fGt (eCall 2 fn_fewest_runs (aCons (eVar 16) (aCons (eC (.int 12)) (aNil)))) (eOp fMul (eC (.int 2)) (eCall 2 fn_fewest_runs (aCons (eVar 3) (aCons (eC (.int 12)) (aNil)))))) (sRet (eC (.bool false))) (sNx))) (sNx)
noncomputable abbrev L9 : Sv := sSet 8 (eBlt fTuple (aCons (eLc [19] (tgN 19) (tTrue) (eIf (eOpT fGt (eVar 19) (eC (.int 12))) (eOp fAdd (eC (.int 1)) (eOp fDiv (eVar 19) (eC (.int 60)))) (eVar 19)) (iSeq (eSl (eVar 3) (pNo) (pAt (eC (.int 3)))))) (aNil)))
noncomputable abbrev L10 : Sv := sSet 6 (eOp fAdd (eC (.int 1)) (eCallM [true, false] fn__law_take (aCons (eVar 1) (aCons (eIf (eOpT fEq (eBlt fLen (aCons (eVar 8) (aNil))) (eC (.int 3))) (eC (.int 2)) (eC (.int 3))) (aNil)))))
noncomputable abbrev L11 : Sv := sSet 9 (eCall 2 fn__law_two (aCons (eVar 8) (aCons (eVar 6) (aNil))))
noncomputable abbrev L12 : Sv := sIf (eOr (eNot (eB (eCall 2 fn__law_alike (aCons (eCall 3 fn__law_told (aCons (eC (.int 2)) (aCons (eVar 8) (aCons (eVar 6) (aNil))))) (aCons (eVar 9) (aNil)))))) (eOr (eAnd (eOpT fNotN (eVar 9) (eC .none)) (eOpT fLt (eVar 9) (eOp fDiv (eOp fSub (eOp fAdd (eBlt fSum (aCons (eVar 8) (aNil))) (eVar 6)) (eC (.int 1))) (eVar 6)))) (eAnd (eOpT fGe (eVar 6) (eBlt fLen (aCons (eVar 8) (aNil)))) (eOpT fGt (eVar 9) (eCall 2 fn_fewest_runs (aCons (eVar 8) (aCons (eVar 6) (aNil)))))))) (sRet (eC (.bool false))) (sNx)
noncomputable abbrev L13 : Sv := sIf (eOr (eOpT fNe (eOp (boolRes fIsN) (eVar 9) (eC .none)) (eOp (boolRes fLt) (eOp fMul (eC (.int 2)) (eVar 6)) (eBlt fLen (aCons (eVar 8) (aNil))))) (eOr (eOpT fNe (eCall 3 fn__law_told (aCons (eC (.int 2)) (aCons (eTup (aCons (eC (.int 60)) (aCons (eC (.int 40)) (aNil)))) (aCons (eC (.int 2)) (aNil))))) (eC (.int 50))) (eOpT fNotN (eCall 3 fn__law_told (aCons (eC (.int 2)) (aCons (eTup (aCons (eC (.int 1)) (aCons (eC (.int 1)) (aCons (eC (.int 1)) (aNil))))) (aCons (eC (.int 1)) (aNil))))) (eC .none)))) (sRet (eC (.bool false))) (sNx)
noncomputable abbrev L14 : Sv := sSet 10 (eOp fAdd (eOp fAdd (eLc [23, 21] (tgT [tgN 23, tgN 21]) (tTrue) (eCall 3 fn__law_told (aCons (eVar 23) (aCons (eVar 3) (aCons (eVar 21) (aNil))))) (iSeq (eLst (aCons (eTup (aCons (eC (.int 0)) (aCons (eC (.int 0)) (aNil)))) (aCons (eTup (aCons (eC (.int 0)) (aCons (eC (.int 13)) (aNil)))) (aCons (eTup (aCons (eC (.int 1)) (aCons (eC (.int 0)) (aNil)))) (aCons (eTup (aCons (eC (.int 1)) (aCons (eC (.int 13)) (aNil)))) (aNil)))))))) (eLc [21] (tgN 21) (tTrue) (eCall 3 fn__law_told (aCons (eC (.int 2)) (aCons (eVar 21) (aCons (eC (.int 0)) (aNil))))) (iSeq (eLst (aCons (eTup (aCons (eC (.int 1)) (aNil))) (aCons (eOp fMul (eTup (aCons (eC (.int 1)) (aNil))) (eC (.int 5))) (aNil))))))) (eLst (aCons (eCall 3 fn__law_told (aCons (eC (.int 2)) (aCons (eTup (aCons (eC (.int 1)) (aNil))) (aCons (eC (.int 5)) (aNil))))) (aNil))))
noncomputable abbrev L15 : Sv := sIf (eOr (eOpT fNe (eVar 10) (eOp fMul (eLst (aCons (eC (.str "range")) (aNil))) (eC (.int 7)))) (eOpT fNe (eLc [21] (tgN 21) (tTrue) (eCall 3 fn__law_told (aCons (eC (.int 2)) (aCons (eVar 21) (aCons (eC (.int 2)) (aNil))))) (iSeq (eLst (aCons (eOp fMul (eTup (aCons (eC (.int 1)) (aNil))) (eC (.int 4))) (aCons (eTup (aCons (eC (.int 61)) (aNil))) (aNil)))))) (eOp fMul (eLst (aCons (eC (.str "much")) (aNil))) (eC (.int 2))))) (sRet (eC (.bool false))) (sNx)
noncomputable abbrev L16 : Sv := sSet 11 (eLst (aCons (eC .none) (aCons (eLst (aCons (eC (.int 1)) (aCons (eC (.int 2)) (aNil)))) (aCons (eTup (aCons (eC (.int 1)) (aNil))) (aCons (eTup (aCons (eC (.int 1)) (aCons (eC (.int 2)) (aCons (eC (.int 0)) (aNil))))) (aCons (eTup (aCons (eC (.int 2)) (aCons (eC (.int 3)) (aNil)))) (aCons (eTup (aCons (e1 fNeg (eC (.int 1))) (aCons (eC (.int 2)) (aNil)))) (aCons (eTup (aCons (eC (.bool true)) (aCons (eC (.int 2)) (aNil)))) (aCons (eTup (aCons (eC (.int 1)) (aCons (eC .none) (aNil)))) (aCons (eTup (aCons (eC (.int 5)) (aCons (eC (.int 0)) (aNil)))) (aNil)))))))))))
noncomputable abbrev L17 : Sv := sIf (eOr (eOpT fNe (eLc [20] (tgN 20) (eNot (eB (eCall 2 fn__law_says (aCons (eCall 3 fn_is_layout (aCons (eTup (aCons (eC (.int 9)) (aCons (eC (.int 9)) (aNil)))) (aCons (eC (.int 4)) (aCons (eVar 20) (aNil))))) (aCons (eC (.bool false)) (aNil)))))) (eVar 20) (iSeq (eVar 11))) (eLst (aNil))) (eOpT fNotN (eCall 3 fn_is_layout (aCons (eTup (aCons (eC (.int 9)) (aCons (eC (.int 9)) (aNil)))) (aCons (eC (.int 4)) (aCons (eTup (aCons (eC (.int 4)) (aCons (eC (.int 0)) (aNil)))) (aNil))))) (eC (.bool true)))) (sRet (eC (.bool false))) (sNx)
noncomputable abbrev L18 : Sv := sSet 11 (eLst (aCons (eC .none) (aCons (eTup (aNil)) (aCons (eLst (aCons (eC (.int 1)) (aNil))) (aCons (eTup (aCons (eC (.int 0)) (aNil))) (aCons (eTup (aCons (eC (.int 501)) (aNil))) (aCons (eTup (aCons (e1 fNeg (eC (.int 1))) (aNil))) (aCons (eTup (aCons (eC (.bool true)) (aNil))) (aCons (eTup (aCons (eC .none) (aNil))) (aCons (eOp fMul (eTup (aCons (eC (.int 1)) (aNil))) (eC (.int 6))) (aNil)))))))))))
noncomputable abbrev L19 : Sv := sRet (eOp (boolRes fEq) (eLc [20] (tgN 20) (eNot (eB (eCall 2 fn__law_says (aCons (eCall 1 fn_are_orders (aCons (eVar 20) (aNil))) (aCons (eC (.bool false)) (aNil)))))) (eVar 20) (iSeq (eVar 11))) (eLst (aNil)))
end K10
end
section
set_option Elab.async false
set_option linter.all false
set_option maxRecDepth 100000
set_option maxHeartbeats 4000000
namespace K10
open PySem L2 Pd
theorem fr_int (n : Nat) (x : Int) : fr__law_alike (n + 1) [.int x, .int x] = .ret (.bool true) [] := by
  rw [fr__law_alike]
  unfold toFn initE bd__law_alike
  simp [inSl, outsOf, ioIx, fIsN, isNone]
theorem fr_none (n : Nat) : fr__law_alike (n + 1) [.none, .none] = .ret (.bool true) [] := by
  rw [fr__law_alike]
  unfold toFn initE bd__law_alike
  simp [inSl, outsOf, ioIx, fIsN, isNone]
theorem eq_nil : fEq (.list []) (.list []) = some true := by simp [fEq, fit, fitAll, PyData.eqv, PyData.eqvAll]
theorem fr_tup {n : Nat} {ds : List D} (h : ∀ d ∈ ds, fr__law_alike (n + 1) [d, d] = .ret (.bool true) []) (hl : ds.length ≤ 1000) : fr__law_alike (n + 2) [.tuple ds, .tuple ds] = .ret (.bool true) [] := by
  rw [fr__law_alike]
  have cf := compF_none (vs := [2]) (g := tgN 2) (c := (eNot (eB (eCall 2 (fr__law_alike (n + 1)) (aCons (eOp (fIx false) (eVar 0) (eVar 2)) (aCons (eOp (fIx false) (eVar 1) (eVar 2)) (aNil))))))) (e := eVar 2) (ρ := [.v (.tuple ds), .v (.tuple ds), .u]) (rngD 0 ds.length) (fun d hd => by
    obtain ⟨k, hk, rfl⟩ := rngD_mem hd
    have a : atI ds ((0 : Int) + (k : Nat)) = some ds[k] := by
      rw [Int.zero_add]
      exact atI_k (List.getElem?_eq_getElem hk)
    have e := h ds[k] (List.getElem_mem hk)
    refine ⟨[.v (.tuple ds), .v (.tuple ds), .v (.int ((0 : Int) + (k : Nat)))], [.v (.tuple ds), .v (.tuple ds), .v (.int ((0 : Int) + (k : Nat)))], rfl, ?_, rfl⟩
    generalize ds[k] = y at *
    generalize (0 : Int) + (k : Nat) = z at *
    generalize fr__law_alike (n + 1) = F at *
    simp [fIx, a, e])
  have rg : rngOk (ds.length : Int) = true := rngOk_s (by omega) (by omega)
  have ln : lineOk ds.length = true := lineOk_s (by omega)
  unfold toFn initE bd__law_alike
  generalize fr__law_alike (n + 1) = F at *
  simp [inSl, outsOf, ioIx, rg]
  rw [cf]
  simp [ln, eq_nil]
theorem fr_lst {n : Nat} {ds : List D} (h : ∀ d ∈ ds, fr__law_alike (n + 1) [d, d] = .ret (.bool true) []) (hl : ds.length ≤ 1000) : fr__law_alike (n + 2) [.list ds, .list ds] = .ret (.bool true) [] := by
  rw [fr__law_alike]
  have cf := compF_none (vs := [2]) (g := tgN 2) (c := (eNot (eB (eCall 2 (fr__law_alike (n + 1)) (aCons (eOp (fIx false) (eVar 0) (eVar 2)) (aCons (eOp (fIx false) (eVar 1) (eVar 2)) (aNil))))))) (e := eVar 2) (ρ := [.v (.list ds), .v (.list ds), .u]) (rngD 0 ds.length) (fun d hd => by
    obtain ⟨k, hk, rfl⟩ := rngD_mem hd
    have a : atI ds ((0 : Int) + (k : Nat)) = some ds[k] := by
      rw [Int.zero_add]
      exact atI_k (List.getElem?_eq_getElem hk)
    have e := h ds[k] (List.getElem_mem hk)
    refine ⟨[.v (.list ds), .v (.list ds), .v (.int ((0 : Int) + (k : Nat)))], [.v (.list ds), .v (.list ds), .v (.int ((0 : Int) + (k : Nat)))], rfl, ?_, rfl⟩
    generalize ds[k] = y at *
    generalize (0 : Int) + (k : Nat) = z at *
    generalize fr__law_alike (n + 1) = F at *
    simp [fIx, a, e])
  have rg : rngOk (ds.length : Int) = true := rngOk_s (by omega) (by omega)
  have ln : lineOk ds.length = true := lineOk_s (by omega)
  unfold toFn initE bd__law_alike
  generalize fr__law_alike (n + 1) = F at *
  simp [inSl, outsOf, ioIx, rg]
  rw [cf]
  simp [ln, eq_nil]
theorem fr_iD (n : Nat) {xs : List Int} (hl : xs.length ≤ 1000) : fr__law_alike (n + 2) [iD xs, iD xs] = .ret (.bool true) [] := by
  unfold iD
  refine fr_tup (fun d hd => ?_) (by simpa using hl)
  obtain ⟨x, _, rfl⟩ := List.mem_map.mp hd
  exact fr_int n x
theorem alike_two {a b : D} (ha : ∀ n, fr__law_alike (n + 2) [a, a] = .ret (.bool true) []) (hb : ∀ n, fr__law_alike (n + 2) [b, b] = .ret (.bool true) []) : fn__law_alike [.list [a, b], .list [a, b]] = .ret (.bool true) [] := by
  unfold fn__law_alike
  refine fr_lst (n := 6) (fun d hd => ?_) (by simp)
  simp only [List.mem_cons, List.mem_nil_iff, or_false] at hd
  rcases hd with rfl | rfl
  · exact ha 5
  · exact hb 5
end K10
end
section
set_option Elab.async false
set_option linter.all false
set_option maxRecDepth 100000
set_option maxHeartbeats 4000000
namespace K10
open PySem L2 Pd
abbrev fr (s1 s2 s3 s4 s5 s6 s7 s8 s9 s10 s11 s12 s13 s14 s15 s16 s17 s18 s19 s20 s21 s22 s23 : Sl) (sc : D) : Pd.Env := [.v sc, s1, s2, s3, s4, s5, s6, s7, s8, s9, s10, s11, s12, s13, s14, s15, s16, s17, s18, s19, s20, s21, s22, s23]
structure Os (wd : Int) (os : List Int) : Prop where
  h : Ord os
  l : os.length ≤ 4
  b : ∀ x ∈ os, x ≤ wd
  w : wd ≤ 500
  w2 : wd < 500 → wd ≤ 30
section
variable {sc d : D} {wd : Int} {os : List Int} {bf : Option Int} {s6 s9 s12 s13 s17 s19 s22 : Sl} {P : Nat} {R : Int}
theorem st_wide (h : DS d) : ∃ (d' : D) (wd : Int), DS d' ∧ (1 ≤ wd ∧ wd ≤ 500 ∧ (wd < 500 → wd ≤ 30)) ∧ L1 (fr (.o d) .u .u .u .u .u .u .u .u .u .u .u .u .u .u .u .u .u .u .u .u .u .u sc) = .nx (fr (.o d') (.v (.int wd)) .u .u .u .u .u .u .u .u .u .u .u .u .u .u .u .u .u .u .u .u .u sc) := by
  obtain ⟨r, d', e, s, h0, h1⟩ := take_ok h (b := 3) (by decide)
  have l3 : lineOk 3 = true := lineOk_s (by decide)
  rcases (by omega : r = 0 ∨ r = 1 ∨ r = 2) with rfl | rfl | rfl
  · exact ⟨d', 4, s, by decide, by unfold L1; simp [e, l3, atI, ixN, fIx]⟩
  · exact ⟨d', 30, s, by decide, by unfold L1; simp [e, l3, atI, ixN, fIx]⟩
  · exact ⟨d', 500, s, by decide, by unfold L1; simp [e, l3, atI, ixN, fIx]⟩
theorem st_orders (h : DS d) (hw : 1 ≤ wd ∧ wd ≤ 500 ∧ (wd < 500 → wd ≤ 30)) : ∃ (d' : D) (os : List Int), DS d' ∧ Os wd os ∧ L2 (fr (.o d) (.v (.int wd)) .u .u .u .u .u .u .u .u .u .u .u .u .u .u .u .u .u .u .u .u .u sc) = .nx (fr (.o d') (.v (.int wd)) (.v (iD os)) .u .u .u .u .u .u .u .u .u .u .u .u .u .u .u .u .u .u .u .u sc) := by
  obtain ⟨r, d1, e1, h1, r0, r1⟩ := take_ok h (b := 4) (by decide)
  obtain ⟨g, ρ', c1, ⟨d2, h2, rfl⟩, c3⟩ := compF_invT (vs := [18]) (t := tgN 18) (e := (eOp fAdd (eC (.int 1)) (eCallM [true, false] fn__law_take (aCons (eVar 1) (aCons (eVar 2) (aNil)))))) (fun ρ => ∃ d, DS d ∧ ρ = (fr (.o d) (.v (.int wd)) .u .u .u .u .u .u .u .u .u .u .u .u .u .u .u .u .u .u .u .u .u sc)) (f := fun i => PyData.int (0 + (i : Nat))) (n := (1 + r).toNat) (fun _ x => ∃ q : Int, x = .int q ∧ 1 ≤ q ∧ q ≤ wd) (by
    rintro i hi ρ ⟨d, hd, rfl⟩
    obtain ⟨q, d2, e2, h2, q0, q1⟩ := take_ok hd (b := wd) (by omega)
    refine ⟨(fr (.o d) (.v (.int wd)) .u .u .u .u .u .u .u .u .u .u .u .u .u .u .u (.v (.int (0 + (i : Nat)))) .u .u .u .u .u sc), .v (.int (1 + q)), (fr (.o d2) (.v (.int wd)) .u .u .u .u .u .u .u .u .u .u .u .u .u .u .u (.v (.int (0 + (i : Nat)))) .u .u .u .u .u sc), .int (1 + q), (fr (.o d2) (.v (.int wd)) .u .u .u .u .u .u .u .u .u .u .u .u .u .u .u (.v (.int (0 + (i : Nat)))) .u .u .u .u .u sc), rfl, ?_, rfl, ⟨1 + q, rfl, by omega, by omega⟩, d2, h2, rfl⟩
    simp [e2]) (ρ := (fr (.o d1) (.v (.int wd)) .u .u .u .u .u .u .u .u .u .u .u .u .u .u .u .u .u .u .u .u .u sc)) ⟨d1, h1, rfl⟩
  rw [← rng_tab] at c1
  have em : tab g (1 + r).toNat = ((List.range (1 + r).toNat).map fun i => dInt (g i)).map PyData.int := by
    rw [← tab_int]
    exact tab_ints fun i hi => let ⟨q, e, _⟩ := c3 i hi; ⟨q, e⟩
  rw [em] at c1
  have bb : ∀ x ∈ (List.range (1 + r).toNat).map fun i => dInt (g i), 1 ≤ x ∧ x ≤ wd := fun x hx => by
    obtain ⟨i, hi, rfl⟩ := List.mem_map.mp hx
    obtain ⟨q, e, q0, q1⟩ := c3 i (List.mem_range.mp hi)
    rw [e]
    exact ⟨q0, q1⟩
  refine ⟨d2, (List.range (1 + r).toNat).map fun i => dInt (g i), h2, ⟨⟨by simp; omega, by simp; omega, fun x hx => ?_⟩, by simp; omega, fun x hx => (bb x hx).2, hw.2.1, hw.2.2⟩, ?_⟩
  · have := bb x hx
    omega
  · have ln : lineOk (1 + r).toNat = true := lineOk_s (by omega)
    have rg : rngOk (1 + r) = true := rngOk_s (by omega) (by omega)
    unfold iD
    generalize ((List.range (1 + r).toNat).map fun i => dInt (g i)).map PyData.int = R at *
    unfold L2
    simp [e1, rg]
    rw [c1]
    simp [ln]
theorem st_many : L3 (fr (.o d) (.v (.int wd)) (.v (iD os)) .u .u .u .u .u .u .u .u .u .u .u .u .u .u .u .u .u .u .u .u sc) = .nx (fr (.o d) (.v (.int wd)) (.v (iD os)) (.v (.int os.length)) .u .u .u .u .u .u .u .u .u .u .u .u .u .u .u .u .u .u .u sc) := by
  have lo := len_iD os
  unfold L3 iD at *
  generalize os.map PyData.int = O at *
  simp [lo]
theorem st_are (h : Os wd os) : L4 (fr (.o d) (.v (.int wd)) (.v (iD os)) (.v (.int os.length)) .u .u .u .u .u .u .u .u .u .u .u .u .u .u .u .u .u .u .u sc) = .nx (fr (.o d) (.v (.int wd)) (.v (iD os)) (.v (.int os.length)) .u .u .u .u .u .u .u .u .u .u .u .u .u .u .u .u .u .u .u sc) := by
  have o := orders_ok h.h.l0 h.h.l1
  have e : os.all okO = true := List.all_eq_true.mpr fun x hx => by
    have h1 := h.h.o x hx
    have h2 := h.b x hx
    have h3 := h.w
    unfold okO
    rw [decide_eq_true h1.1, decide_eq_true (by omega : x ≤ 500)]
    rfl
  rw [e] at o
  have s := says_ok true true
  unfold L4 iD at *
  generalize os.map PyData.int = O at *
  simp [o, s]
theorem st_bef : L5 (fr (.o d) (.v (.int wd)) (.v (iD os)) (.v (.int os.length)) .u .u .u .u .u .u .u .u .u .u .u .u .u .u .u .u .u .u .u sc) = .nx (fr (.o d) (.v (.int wd)) (.v (iD os)) (.v (.int os.length)) (.v (obD none)) .u .u .u .u .u .u .u .u .u .u .u .u .u .u .u .u .u .u sc) := by
  unfold L5 obD iD
  generalize os.map PyData.int = O at *
  simp
/-! ### one plate -/
theorem rows_comp (h : Os wd os) (p1 : 1 ≤ P) (hp : P ≤ 8) : compF [13] (tgN 13) (eOpT (fNotIn false) (eC (.int 0)) (eVar 13)) (eTup (aCons (eCall 2 fn__law_runs (aCons (eVar 3) (aCons (eVar 13) (aNil)))) (aCons (eVar 13) (aNil)))) ((lay P os.length).map iD) (fr (.o d) (.v (.int wd)) (.v (iD os)) (.v (.int os.length)) (.v (obD bf)) (.v (.int P)) .u .u s9 .u .u s12 .u .u .u .u s17 .u s19 .u .u s22 .u sc) = some ((fulls os P).map (rr os), (fr (.o d) (.v (.int wd)) (.v (iD os)) (.v (.int os.length)) (.v (obD bf)) (.v (.int P)) .u .u s9 .u .u s12 .u .u .u .u s17 .u s19 .u .u s22 .u sc)) := by
  have cf := compF_map (vs := [13]) (g := tgN 13) (c := (eOpT (fNotIn false) (eC (.int 0)) (eVar 13))) (e := (eTup (aCons (eCall 2 fn__law_runs (aCons (eVar 3) (aCons (eVar 13) (aNil)))) (aCons (eVar 13) (aNil))))) (ρ := (fr (.o d) (.v (.int wd)) (.v (iD os)) (.v (.int os.length)) (.v (obD bf)) (.v (.int P)) .u .u s9 .u .u s12 .u .u .u .u s17 .u s19 .u .u s22 .u sc)) iD (fun row => !decide (0 ∈ row)) (rr os) (lay P os.length) (fun row hr => by
    have i := in_ints 0 row
    obtain ⟨a, b, c⟩ := lay_mem.mp hr
    refine ⟨(fr (.o d) (.v (.int wd)) (.v (iD os)) (.v (.int os.length)) (.v (obD bf)) (.v (.int P)) .u .u s9 .u .u s12 (.v (iD row)) .u .u .u s17 .u s19 .u .u s22 .u sc), rfl, (fr (.o d) (.v (.int wd)) (.v (iD os)) (.v (.int os.length)) (.v (obD bf)) (.v (.int P)) .u .u s9 .u .u s12 (.v (iD row)) .u .u .u s17 .u s19 .u .u s22 .u sc), ?_, fun _ => rfl, fun z => ?_⟩
    · unfold iD at *
      generalize os.map PyData.int = O at *
      generalize row.map PyData.int = W at *
      generalize decide (0 ∈ row) = k at *
      generalize obD bf = bb at *
      have ni : fNotIn false (.int 0) (.tuple W) = some (!k) := by
        unfold fNotIn
        rw [i]
        rfl
      simp [ni]
    · have nz : 0 ∉ row := fun m => by
        rw [decide_eq_true m] at z
        cases z
      have lr := lruns_ok (os := os) (row := row) (by have := h.h.l0; omega) h.h.l1 a nz fun x hx => by
        have h1 := le_sum b hx
        have h2 := b x hx
        omega
      refine ⟨.v (rr os row), (fr (.o d) (.v (.int wd)) (.v (iD os)) (.v (.int os.length)) (.v (obD bf)) (.v (.int P)) .u .u s9 .u .u s12 (.v (iD row)) .u .u .u s17 .u s19 .u .u s22 .u sc), (fr (.o d) (.v (.int wd)) (.v (iD os)) (.v (.int os.length)) (.v (obD bf)) (.v (.int P)) .u .u s9 .u .u s12 (.v (iD row)) .u .u .u s17 .u s19 .u .u s22 .u sc), ?_, rfl, rfl⟩
      unfold rr iD at *
      generalize os.map PyData.int = O at *
      generalize row.map PyData.int = W at *
      generalize obD bf = bb at *
      generalize rn os row = z at *
      simp [lr])
  exact cf
theorem fulls_len (h : Os wd os) (hp : P ≤ 8) : (fulls os P).length ≤ 28561 := by
  have h1 := lay_9 (places := P) (m := os.length) (by omega) h.l
  have h2 := List.length_filter_le (fun row => !decide (0 ∈ row)) (lay P os.length)
  unfold fulls
  omega
theorem fulls_own (h : Os wd os) : ∀ x ∈ (fulls os P).map (rr os), ∃ a b, x = .tuple (a :: b) := fun x hx => by
  obtain ⟨row, _, rfl⟩ := List.mem_map.mp hx
  exact ⟨_, _, rfl⟩
theorem sort_i (os : List Int) (L : List (List Int)) : fSortI [.list (L.map (rr os))] = some (.f (.list ((L.map (rr os)).mergeSort dLe))) := by
  have ak := alike_rows os L
  have t1 : (L.map (rr os)).all tup1 = true := by
    rw [List.all_map]
    exact List.all_eq_true.mpr fun _ _ => rfl
  cases L with
  | nil => simp [fSortI, asInts, sortI]
  | cons r L =>
    have na : asInts ((r :: L).map (rr os)) = none := rfl
    simp only [fSortI, na, sortP, ak, t1, Bool.and_self, if_true]
    rfl
theorem st_rows (h : Os wd os) (p1 : 1 ≤ P) (hp : P ≤ 8) : ∃ t13, (sSet 12 (eBlt fSortI (aCons (eLc [13] (tgN 13) (eOpT (fNotIn false) (eC (.int 0)) (eVar 13)) (eTup (aCons (eCall 2 fn__law_runs (aCons (eVar 3) (aCons (eVar 13) (aNil)))) (aCons (eVar 13) (aNil)))) (iSeq (eCall 2 fn__law_layouts (aCons (eVar 4) (aCons (eVar 6) (aNil)))))) (aNil)))) (fr (.o d) (.v (.int wd)) (.v (iD os)) (.v (.int os.length)) (.v (obD bf)) (.v (.int P)) .u .u s9 .u .u s12 s13 .u .u .u s17 .u s19 .u .u s22 .u sc) = .nx (fr (.o d) (.v (.int wd)) (.v (iD os)) (.v (.int os.length)) (.v (obD bf)) (.v (.int P)) .u .u s9 .u .u (.o (.list (((fulls os P).map (rr os)).mergeSort dLe))) t13 .u .u .u s17 .u s19 .u .u s22 .u sc) := by
  have cf := rows_comp (bf := bf) (s9 := s9) (s12 := s12) (s17 := s17) (s19 := s19) (s22 := s22) (d := d) (sc := sc) h p1 hp
  have ly := layouts_l (m := os.length) (places := P) h.h.l0 h.l (by omega)
  have ln := lay_9 (places := P) (m := os.length) (by omega) h.l
  have lk : lineOk ((lay P os.length).map iD).length = true := by
    rw [List.length_map]
    exact lineOk_s (by omega)
  have so := sort_i os (fulls os P)
  refine ⟨backS (some s13), ?_⟩
  unfold iD at *
  generalize ((fulls os P).map (rr os)).mergeSort dLe = Z at *
  generalize (fulls os P).map (rr os) = Y at *
  generalize hR : (lay P os.length).map (fun xs : List Int => PyData.tuple (xs.map PyData.int)) = R at *
  generalize os.map PyData.int = O at *
  generalize obD bf = bb at *
  simp [ly, lk]
  rw [cf]
  simp [so]
end
end K10
end
section
set_option Elab.async false
set_option linter.all false
set_option maxRecDepth 100000
set_option maxHeartbeats 4000000
namespace K10
open PySem L2 Pd
theorem fit_rows {os : List Int} : ∀ {Z : List D}, (∀ x ∈ Z, ∃ row, x = rr os row) → fit 60 (.list Z) = true := by
  have go : ∀ {Z : List D}, (∀ x ∈ Z, ∃ row, x = rr os row) → fitAll 59 Z = true := by
    intro Z
    induction Z with
    | nil => intro _; rfl
    | cons x Z ih =>
      intro h
      obtain ⟨row, rfl⟩ := h x (List.mem_cons_self ..)
      rw [fitAll, ih fun y hy => h y (List.mem_cons_of_mem _ hy), Bool.and_true]
      show (fit 58 (.int (rn os row)) && (fitAll 57 (row.map PyData.int) && true)) = true
      rw [fit_ints_]
      rfl
  intro Z h
  unfold fit
  exact go h
theorem ne_rows {os : List Int} {x : D} {es : List D} (h : ∀ y ∈ x :: es, ∃ row, y = rr os row) : fNe (.list (x :: es)) (.list []) = some true := by
  unfold fNe
  rw [fit_rows h]
  rfl
theorem eq_rows {os : List Int} {x : D} {es : List D} (h : ∀ y ∈ x :: es, ∃ row, y = rr os row) : fEq (.list (x :: es)) (.list []) = some false := by
  unfold fEq
  rw [fit_rows h]
  rfl
theorem ne_e : fNe (.list []) (.list []) = some false := by simp [fNe, fit, fitAll, PyData.eqv, PyData.eqvAll]
section
variable {sc d : D} {wd : Int} {os : List Int} {bf : Option Int} {s6 s9 s12 s13 s17 : Sl} {P : Nat} {R z : Int} {es : List D}
/-! ### too few places -/
theorem none_due (h : Os wd os) : (sSet 9 (eIf (eOpT fNe (eVar 12) (eLst (aNil))) (eOp (fIx false) (eVar 12) (eC (.int 0))) (eTup (aCons (eC .none) (aCons (eC .none) (aNil)))))) (fr (.o d) (.v (.int wd)) (.v (iD os)) (.v (.int os.length)) (.v (obD bf)) (.v (.int P)) .u .u s9 .u .u (.o (.list [])) s13 .u .u .u s17 .u .u .u .u .u .u sc) = .nx (fr (.o d) (.v (.int wd)) (.v (iD os)) (.v (.int os.length)) (.v (obD bf)) (.v (.int P)) .u .u (.v (.tuple [.none, .none])) .u .u (.o (.list [])) s13 .u .u .u s17 .u .u .u .u .u .u sc) := by
  have ne := ne_e
  unfold iD at *
  generalize os.map PyData.int = O at *
  generalize obD bf = bb at *
  simp [ne]
theorem none_told (h : Os wd os) (p1 : 1 ≤ P) (hp : P ≤ 8) (hl : P < os.length) : (sIf (eOr (eNot (eB (eCall 2 fn__law_alike (aCons (eLst (aCons (eCall 3 fn__law_told (aCons (eC (.int 0)) (aCons (eVar 3) (aCons (eVar 6) (aNil))))) (aCons (eCall 3 fn__law_told (aCons (eC (.int 1)) (aCons (eVar 3) (aCons (eVar 6) (aNil))))) (aNil)))) (aCons (eLst (aCons (eOp (fIx false) (eVar 9) (eC (.int 0))) (aCons (eOp (fIx false) (eVar 9) (eC (.int 1))) (aNil)))) (aNil)))))) (eOpT fNe (eOp (boolRes fEq) (eVar 12) (eLst (aNil))) (eOp (boolRes fLt) (eVar 6) (eVar 4)))) (sRet (eC (.bool false))) (sNx)) (fr (.o d) (.v (.int wd)) (.v (iD os)) (.v (.int os.length)) (.v (obD bf)) (.v (.int P)) .u .u (.v (.tuple [.none, .none])) .u .u (.o (.list [])) s13 .u .u .u s17 .u .u .u .u .u .u sc) = .nx (fr (.o d) (.v (.int wd)) (.v (iD os)) (.v (.int os.length)) (.v (obD bf)) (.v (.int P)) .u .u (.v (.tuple [.none, .none])) .u .u (.o (.list [])) s13 .u .u .u s17 .u .u .u .u .u .u sc) := by
  have t0 := told0 (fewest_none (os := os) (places := (P : Int)) (by omega) (by omega) (by omega))
  have t1 := told1 (told_none (os := os) (places := (P : Int)) (by omega) (by omega) (by omega))
  have al := alike_two (a := .none) (b := .none) (fun n => fr_none (n + 1)) (fun n => fr_none (n + 1))
  have eq := eq_nil
  have c : ((P : Int) < os.length) := by omega
  unfold iD at *
  generalize os.map PyData.int = O at *
  generalize obD bf = bb at *
  simp [t0, t1, al, eq, c, fIx]
theorem none_rest (h : Os wd os) : (sIf (eOpT fNe (eVar 12) (eLst (aNil))) (sSeq (sSet 17 (eBlt fMax (aCons (eOp fDiv (eOp fSub (eOp fAdd (eBlt fSum (aCons (eVar 3) (aNil))) (eVar 6)) (eC (.int 1))) (eVar 6)) (aCons (eOp fDiv (eOp fSub (eOp fAdd (eBlt fMax (aCons (eVar 3) (aNil))) (eVar 6)) (eVar 4)) (eOp fAdd (eOp fSub (eVar 6) (eVar 4)) (eC (.int 1)))) (aNil))))) (sSeq (sIf (eOr (eOpT fLt (eOp (fIx false) (eVar 9) (eC (.int 0))) (eVar 17)) (eOr (eAnd (eOpT fNotN (eVar 5) (eC .none)) (eOpT fGt (eOp (fIx false) (eVar 9) (eC (.int 0))) (eVar 5))) (eOpT fNe (eCall 2 fn__law_given (aCons (eVar 3) (aCons (eVar 6) (aNil)))) (eOp (fIx false) (eVar 9) (eC (.int 0)))))) (sRet (eC (.bool false))) (sNx)) (sSeq (sIf (eOr (eOpT fNe (eLc [22] (tgN 22) (eOpT fLe (eBlt fSum (aCons (eLc [19] (tgN 19) (tTrue) (eOp fDiv (eOp fSub (eOp fAdd (eVar 19) (eVar 22)) (eC (.int 1))) (eVar 22)) (iSeq (eVar 3))) (aNil))) (eVar 6)) (eVar 22) (iRange rng2 (aCons (eC (.int 1)) (aCons (eBlt fMin (aCons (eOp (fIx false) (eVar 9) (eC (.int 0))) (aCons (eC (.int 40)) (aNil)))) (aNil))))) (eLst (aNil))) (eOpT fGt (eBlt fSum (aCons (eLc [19] (tgN 19) (tTrue) (eOp fDiv (eOp fSub (eOp fAdd (eVar 19) (eOp (fIx false) (eVar 9) (eC (.int 0)))) (eC (.int 1))) (eOp (fIx false) (eVar 9) (eC (.int 0)))) (iSeq (eVar 3))) (aNil))) (eVar 6))) (sRet (eC (.bool false))) (sNx)) (sSet 5 (eOp (fIx false) (eVar 9) (eC (.int 0))))))) (sNx)) (fr (.o d) (.v (.int wd)) (.v (iD os)) (.v (.int os.length)) (.v (obD bf)) (.v (.int P)) .u .u (.v (.tuple [.none, .none])) .u .u (.o (.list [])) s13 .u .u .u s17 .u .u .u .u .u .u sc) = .nx (fr (.o d) (.v (.int wd)) (.v (iD os)) (.v (.int os.length)) (.v (obD bf)) (.v (.int P)) .u .u (.v (.tuple [.none, .none])) .u .u (.o (.list [])) s13 .u .u .u s17 .u .u .u .u .u .u sc) := by
  have ne := ne_e
  unfold iD at *
  generalize os.map PyData.int = O at *
  generalize obD bf = bb at *
  simp [ne]
/-! ### places enough -/
theorem some_due (hr : ∀ y ∈ rr os (nd os R) :: es, ∃ row, y = rr os row) : (sSet 9 (eIf (eOpT fNe (eVar 12) (eLst (aNil))) (eOp (fIx false) (eVar 12) (eC (.int 0))) (eTup (aCons (eC .none) (aCons (eC .none) (aNil)))))) (fr (.o d) (.v (.int wd)) (.v (iD os)) (.v (.int os.length)) (.v (obD bf)) (.v (.int P)) .u .u s9 .u .u (.o (.list (rr os (nd os R) :: es))) s13 .u .u .u s17 .u .u .u .u .u .u sc) = .nx (fr (.o d) (.v (.int wd)) (.v (iD os)) (.v (.int os.length)) (.v (obD bf)) (.v (.int P)) .u .u (.v (rr os (nd os R))) .u .u (.o (.list (rr os (nd os R) :: es))) s13 .u .u .u s17 .u .u .u .u .u .u sc) := by
  have ne := ne_rows hr
  generalize rr os (nd os R) = r0 at *
  generalize iD os = O at *
  generalize obD bf = bb at *
  simp [ne, fIx]
theorem some_told (h : Os wd os) (hp : P ≤ 8) (hl : os.length ≤ P) (f : Fw os P R) (hr : ∀ y ∈ rr os (nd os R) :: es, ∃ row, y = rr os row) : (sIf (eOr (eNot (eB (eCall 2 fn__law_alike (aCons (eLst (aCons (eCall 3 fn__law_told (aCons (eC (.int 0)) (aCons (eVar 3) (aCons (eVar 6) (aNil))))) (aCons (eCall 3 fn__law_told (aCons (eC (.int 1)) (aCons (eVar 3) (aCons (eVar 6) (aNil))))) (aNil)))) (aCons (eLst (aCons (eOp (fIx false) (eVar 9) (eC (.int 0))) (aCons (eOp (fIx false) (eVar 9) (eC (.int 1))) (aNil)))) (aNil)))))) (eOpT fNe (eOp (boolRes fEq) (eVar 12) (eLst (aNil))) (eOp (boolRes fLt) (eVar 6) (eVar 4)))) (sRet (eC (.bool false))) (sNx)) (fr (.o d) (.v (.int wd)) (.v (iD os)) (.v (.int os.length)) (.v (obD bf)) (.v (.int P)) .u .u (.v (rr os (nd os R))) .u .u (.o (.list (rr os (nd os R) :: es))) s13 .u .u .u s17 .u .u .u .u .u .u sc) = .nx (fr (.o d) (.v (.int wd)) (.v (iD os)) (.v (.int os.length)) (.v (obD bf)) (.v (.int P)) .u .u (.v (rr os (nd os R))) .u .u (.o (.list (rr os (nd os R) :: es))) s13 .u .u .u s17 .u .u .u .u .u .u sc) := by
  have l0 := h.h.l0
  have t0 := told0 (fewest_ok h.h (places := (P : Int)) (by omega) (by omega) (by omega) f)
  have t1 := told1 (told_ok h.h (places := (P : Int)) (by omega) (by omega) (by omega) f)
  have al := alike_two (a := .int R) (b := iD (nd os R)) (fun n => fr_int (n + 1) R) (fun n => fr_iD n (by rw [nd_len]; have := h.l; omega))
  have eq := eq_rows hr
  have c : ¬ ((P : Int) < os.length) := by omega
  have er : rr os (nd os R) = .tuple [.int R, iD (nd os R)] := by
    unfold rr
    rw [rn_fw h.h f]
  rw [er] at eq ⊢
  generalize iD (nd os R) = N at *
  generalize iD os = O at *
  generalize obD bf = bb at *
  simp [t0, t1, al, eq, c, fIx]
theorem sum_cd {os : List Int} {r : Int} (hr : 1 ≤ r) : os.sum ≤ r * (nd os r).sum := by
  induction os with
  | nil => simp [nd]
  | cons o os ih =>
    have e : nd (o :: os) r = cdiv o r :: nd os r := rfl
    have c := (cd_le (o := o) (l := r) (r := cdiv o r) (by omega)).mp (Int.le_refl _)
    rw [e, List.sum_cons, List.sum_cons, Int.mul_add, Int.mul_comm r (cdiv o r)]
    omega
theorem others {xs : List Int} (h : ∀ x ∈ xs, 1 ≤ x) {x : Int} (hx : x ∈ xs) : x + xs.length - 1 ≤ xs.sum := by
  induction xs with
  | nil => cases hx
  | cons y ys ih =>
    have hy := h y (List.mem_cons_self ..)
    have hs := fun z hz => h z (List.mem_cons_of_mem y hz)
    have g := sum_ge hs
    simp only [List.length_cons, List.sum_cons]
    rcases List.mem_cons.mp hx with rfl | q
    · omega
    · have := ih hs q
      omega
theorem bounds (h : Os wd os) (hl : os.length ≤ P) (f : Fw os P R) : cdiv os.sum P ≤ R ∧ cdiv (mxl os) ((P : Int) - os.length + 1) ≤ R := by
  have l0 := h.h.l0
  have fp := f.p
  have fs := f.s
  constructor
  · rw [cd_le (by omega)]
    have a := sum_cd (os := os) fp
    have b := Int.mul_le_mul_of_nonneg_left fs (show 0 ≤ R by omega)
    omega
  · rw [cd_le (by omega)]
    have m := mxl_mem (ne_len (xs := os) (by omega))
    have mn : cdiv (mxl os) R ∈ nd os R := List.mem_map.mpr ⟨_, m, rfl⟩
    have o := others (nd_pos h.h fp) mn
    rw [nd_len] at o
    have c := (cd_le (o := mxl os) (l := R) (r := cdiv (mxl os) R) (by omega)).mp (Int.le_refl _)
    have b := Int.mul_le_mul_of_nonneg_left (show cdiv (mxl os) R ≤ (P : Int) - os.length + 1 by omega) (show 0 ≤ R by omega)
    rw [Int.mul_comm] at b
    rw [Int.mul_comm R] at b
    have e := Int.mul_comm R ((P : Int) - os.length + 1)
    omega
theorem some_least (h : Os wd os) (p1 : 1 ≤ P) (hp : P ≤ 8) (hl : os.length ≤ P) (f : Fw os P R) : ∃ z, z ≤ R ∧ (sSet 17 (eBlt fMax (aCons (eOp fDiv (eOp fSub (eOp fAdd (eBlt fSum (aCons (eVar 3) (aNil))) (eVar 6)) (eC (.int 1))) (eVar 6)) (aCons (eOp fDiv (eOp fSub (eOp fAdd (eBlt fMax (aCons (eVar 3) (aNil))) (eVar 6)) (eVar 4)) (eOp fAdd (eOp fSub (eVar 6) (eVar 4)) (eC (.int 1)))) (aNil))))) (fr (.o d) (.v (.int wd)) (.v (iD os)) (.v (.int os.length)) (.v (obD bf)) (.v (.int P)) .u .u (.v (rr os (nd os R))) .u .u (.o (.list (rr os (nd os R) :: es))) s13 .u .u .u s17 .u .u .u .u .u .u sc) = .nx (fr (.o d) (.v (.int wd)) (.v (iD os)) (.v (.int os.length)) (.v (obD bf)) (.v (.int P)) .u .u (.v (rr os (nd os R))) .u .u (.o (.list (rr os (nd os R) :: es))) s13 .u .u .u (.v (.int z)) .u .u .u .u .u .u sc) := by
  have l0 := h.h.l0
  obtain ⟨b1, b2⟩ := bounds h hl f
  have st := sum_t os
  have mt := max_t (ne_len (xs := os) (by omega))
  have d1 : divOk (P : Int) = true := divOk_s (by omega) (by omega)
  have d2 : divOk ((P : Int) - os.length + 1) = true := divOk_s (by omega) (by omega)
  have e2 : mxl os + (P : Int) - os.length = mxl os + ((P : Int) - os.length + 1) - 1 := by omega
  refine ⟨if cdiv os.sum P < cdiv (mxl os) ((P : Int) - os.length + 1) then cdiv (mxl os) ((P : Int) - os.length + 1) else cdiv os.sum P, by split <;> assumption, ?_⟩
  generalize rr os (nd os R) = r0 at *
  unfold cdiv iD at *
  rw [← e2]
  generalize obD bf = bb at *
  generalize os.sum = s at *
  generalize mxl os = m at *
  generalize os.map PyData.int = O at *
  simp [st, mt, d1, d2]
theorem some_same (h : Os wd os) (p1 : 1 ≤ P) (hp : P ≤ 8) (hl : os.length ≤ P) (f : Fw os P R) (hz : z ≤ R) (hb : ∀ v, bf = some v → R ≤ v) : (sIf (eOr (eOpT fLt (eOp (fIx false) (eVar 9) (eC (.int 0))) (eVar 17)) (eOr (eAnd (eOpT fNotN (eVar 5) (eC .none)) (eOpT fGt (eOp (fIx false) (eVar 9) (eC (.int 0))) (eVar 5))) (eOpT fNe (eCall 2 fn__law_given (aCons (eVar 3) (aCons (eVar 6) (aNil)))) (eOp (fIx false) (eVar 9) (eC (.int 0)))))) (sRet (eC (.bool false))) (sNx)) (fr (.o d) (.v (.int wd)) (.v (iD os)) (.v (.int os.length)) (.v (obD bf)) (.v (.int P)) .u .u (.v (rr os (nd os R))) .u .u (.o (.list (rr os (nd os R) :: es))) s13 .u .u .u (.v (.int z)) .u .u .u .u .u .u sc) = .nx (fr (.o d) (.v (.int wd)) (.v (iD os)) (.v (.int os.length)) (.v (obD bf)) (.v (.int P)) .u .u (.v (rr os (nd os R))) .u .u (.o (.list (rr os (nd os R) :: es))) s13 .u .u .u (.v (.int z)) .u .u .u .u .u .u sc) := by
  have g := given_ok h.h (places := P) (by omega) (by omega) f
  have er : rr os (nd os R) = .tuple [.int R, iD (nd os R)] := by
    unfold rr
    rw [rn_fw h.h f]
  have c1 : ¬ R < z := by omega
  rw [er]
  generalize iD (nd os R) = N at *
  generalize iD os = O at *
  cases bf with
  | none =>
    unfold obD
    simp [fIx, c1, fNotN, isNone, g]
  | some v =>
    have c2 := hb v rfl
    have c3 : ¬ v < R := by omega
    unfold obD
    simp [fIx, c1, fNotN, isNone, g, c3]
theorem cd_comp (h : Os wd os) {k : Int} (k1 : 1 ≤ k) (k2 : k ≤ 2000) {ev : Ev} {ρ : Pd.Env} (he : ∀ o, ∃ ρ1, tgN 19 (.int o) ρ = some ρ1 ∧ ev ρ1 = .ok (.v (.int (cdiv o k))) ρ1 ∧ wipeE ρ1 [19] = ρ) : compF [19] (tgN 19) tTrue ev (os.map PyData.int) ρ = some ((nd os k).map PyData.int, ρ) := by
  have cf := compF_all (vs := [19]) (g := tgN 19) (e := ev) (ρ := ρ) PyData.int (fun o => PyData.int (cdiv o k)) os (fun o _ => by
    obtain ⟨ρ1, a, b, c⟩ := he o
    exact ⟨ρ1, .v (.int (cdiv o k)), ρ1, ρ1, a, b, rfl, c⟩)
  have e : (os.map fun o => PyData.int (cdiv o k)) = (nd os k).map PyData.int := by
    unfold nd
    rw [List.map_map]
    rfl
  rw [e] at cf
  exact cf
theorem some_near (h : Os wd os) (p1 : 1 ≤ P) (hp : P ≤ 8) (f : Fw os P R) : (sIf (eOr (eOpT fNe (eLc [22] (tgN 22) (eOpT fLe (eBlt fSum (aCons (eLc [19] (tgN 19) (tTrue) (eOp fDiv (eOp fSub (eOp fAdd (eVar 19) (eVar 22)) (eC (.int 1))) (eVar 22)) (iSeq (eVar 3))) (aNil))) (eVar 6)) (eVar 22) (iRange rng2 (aCons (eC (.int 1)) (aCons (eBlt fMin (aCons (eOp (fIx false) (eVar 9) (eC (.int 0))) (aCons (eC (.int 40)) (aNil)))) (aNil))))) (eLst (aNil))) (eOpT fGt (eBlt fSum (aCons (eLc [19] (tgN 19) (tTrue) (eOp fDiv (eOp fSub (eOp fAdd (eVar 19) (eOp (fIx false) (eVar 9) (eC (.int 0)))) (eC (.int 1))) (eOp (fIx false) (eVar 9) (eC (.int 0)))) (iSeq (eVar 3))) (aNil))) (eVar 6))) (sRet (eC (.bool false))) (sNx)) (fr (.o d) (.v (.int wd)) (.v (iD os)) (.v (.int os.length)) (.v (obD bf)) (.v (.int P)) .u .u (.v (rr os (nd os R))) .u .u (.o (.list (rr os (nd os R) :: es))) s13 .u .u .u (.v (.int z)) .u .u .u .u .u .u sc) = .nx (fr (.o d) (.v (.int wd)) (.v (iD os)) (.v (.int os.length)) (.v (obD bf)) (.v (.int P)) .u .u (.v (rr os (nd os R))) .u .u (.o (.list (rr os (nd os R) :: es))) s13 .u .u .u (.v (.int z)) .u .u .u .u .u .u sc) := by
  have fp := f.p
  have fu := f.u
  have l1 := h.h.l1
  have ln : lineOk os.length = true := lineOk_s (by omega)
  have lo : (os.map PyData.int).length = os.length := List.length_map _
  have er : rr os (nd os R) = .tuple [.int R, iD (nd os R)] := by
    unfold rr
    rw [rn_fw h.h f]
  have ne := ne_e
  have sR := sum_l (nd os R)
  have nR : ¬ (P : Int) < (nd os R).sum := by have := f.s; omega
  obtain ⟨M, hM⟩ : ∃ M : Int, M = if 40 < R then 40 else R := ⟨_, rfl⟩
  have Mb : 1 ≤ M ∧ M ≤ 40 ∧ M ≤ R := by split at hM <;> omega
  have rg1 : rngOk 1 = true := rngOk_s (by decide) (by decide)
  have rgM : rngOk M = true := rngOk_s (by omega) (by omega)
  have c2 := cd_comp h (k := R) fp (by omega) (ev := (eOp fDiv (eOp fSub (eOp fAdd (eVar 19) (eOp (fIx false) (eVar 9) (eC (.int 0)))) (eC (.int 1))) (eOp (fIx false) (eVar 9) (eC (.int 0))))) (ρ := (fr (.o d) (.v (.int wd)) (.v (iD os)) (.v (.int os.length)) (.v (obD bf)) (.v (.int P)) .u .u (.v (.tuple [.int R, iD (nd os R)])) .u .u (.o (.list (rr os (nd os R) :: es))) s13 .u .u .u (.v (.int z)) .u .u .u .u .u .u sc)) (fun o => ⟨(fr (.o d) (.v (.int wd)) (.v (iD os)) (.v (.int os.length)) (.v (obD bf)) (.v (.int P)) .u .u (.v (.tuple [.int R, iD (nd os R)])) .u .u (.o (.list (rr os (nd os R) :: es))) s13 .u .u .u (.v (.int z)) .u (.v (.int o)) .u .u .u .u sc), rfl, by
    have dv : divOk R = true := divOk_s (by omega) (by omega)
    unfold cdiv
    generalize iD (nd os R) = N at *
    generalize iD os = O at *
    generalize obD bf = bb at *
    simp [fIx, dv], rfl⟩)
  have c1 := compF_none (vs := [22]) (g := tgN 22) (c := (eOpT fLe (eBlt fSum (aCons (eLc [19] (tgN 19) (tTrue) (eOp fDiv (eOp fSub (eOp fAdd (eVar 19) (eVar 22)) (eC (.int 1))) (eVar 22)) (iSeq (eVar 3))) (aNil))) (eVar 6))) (e := eVar 22) (ρ := (fr (.o d) (.v (.int wd)) (.v (iD os)) (.v (.int os.length)) (.v (obD bf)) (.v (.int P)) .u .u (.v (.tuple [.int R, iD (nd os R)])) .u .u (.o (.list (rr os (nd os R) :: es))) s13 .u .u .u (.v (.int z)) .u .u .u .u .u .u sc)) (rngD 1 (M.toNat - 1)) (fun x hx => by
    obtain ⟨j, hj, rfl⟩ := rngD_mem hx
    obtain ⟨k, hk⟩ : ∃ k : Int, k = 1 + (j : Nat) := ⟨_, rfl⟩
    rw [← hk]
    have k1 : 1 ≤ k := by omega
    have k2 : k < R := by omega
    have n1 : ¬ (nd os k).sum ≤ P := by have := f.n k k1 k2; omega
    have sk := sum_l (nd os k)
    have dv : divOk k = true := divOk_s (by omega) (by omega)
    have c3 := cd_comp h (k := k) k1 (by omega) (ev := (eOp fDiv (eOp fSub (eOp fAdd (eVar 19) (eVar 22)) (eC (.int 1))) (eVar 22))) (ρ := (fr (.o d) (.v (.int wd)) (.v (iD os)) (.v (.int os.length)) (.v (obD bf)) (.v (.int P)) .u .u (.v (.tuple [.int R, iD (nd os R)])) .u .u (.o (.list (rr os (nd os R) :: es))) s13 .u .u .u (.v (.int z)) .u .u .u .u (.v (.int k)) .u sc)) (fun o => ⟨(fr (.o d) (.v (.int wd)) (.v (iD os)) (.v (.int os.length)) (.v (obD bf)) (.v (.int P)) .u .u (.v (.tuple [.int R, iD (nd os R)])) .u .u (.o (.list (rr os (nd os R) :: es))) s13 .u .u .u (.v (.int z)) .u (.v (.int o)) .u .u (.v (.int k)) .u sc), rfl, by
      unfold cdiv
      generalize iD (nd os R) = N at *
      generalize iD os = O at *
      generalize obD bf = bb at *
      simp [dv], rfl⟩)
    refine ⟨(fr (.o d) (.v (.int wd)) (.v (iD os)) (.v (.int os.length)) (.v (obD bf)) (.v (.int P)) .u .u (.v (.tuple [.int R, iD (nd os R)])) .u .u (.o (.list (rr os (nd os R) :: es))) s13 .u .u .u (.v (.int z)) .u .u .u .u (.v (.int k)) .u sc), (fr (.o d) (.v (.int wd)) (.v (iD os)) (.v (.int os.length)) (.v (obD bf)) (.v (.int P)) .u .u (.v (.tuple [.int R, iD (nd os R)])) .u .u (.o (.list (rr os (nd os R) :: es))) s13 .u .u .u (.v (.int z)) .u .u .u .u (.v (.int k)) .u sc), rfl, ?_, rfl⟩
    generalize iD (nd os R) = N at *
    unfold iD at *
    generalize (nd os k).map PyData.int = K at *
    generalize (nd os k).sum = s at *
    generalize os.map PyData.int = O at *
    generalize obD bf = bb at *
    simp [lo, ln]
    rw [c3]
    simp [sk, n1])
  have lM : lineOk (M.toNat - 1) = true := lineOk_s (by omega)
  rw [er] at c1 c2 ⊢
  generalize iD (nd os R) = N at *
  unfold iD at *
  generalize (nd os R).map PyData.int = K at *
  generalize (nd os R).sum = s at *
  generalize os.map PyData.int = O at *
  generalize obD bf = bb at *
  simp [fIx, ← hM, rg1, rgM, lM]
  rw [c1]
  simp [ne, lo, ln, fIx]
  rw [c2]
  simp [sR, nR]
theorem some_bef (h : Os wd os) (f : Fw os P R) : (sSet 5 (eOp (fIx false) (eVar 9) (eC (.int 0)))) (fr (.o d) (.v (.int wd)) (.v (iD os)) (.v (.int os.length)) (.v (obD bf)) (.v (.int P)) .u .u (.v (rr os (nd os R))) .u .u (.o (.list (rr os (nd os R) :: es))) s13 .u .u .u (.v (.int z)) .u .u .u .u .u .u sc) = .nx (fr (.o d) (.v (.int wd)) (.v (iD os)) (.v (.int os.length)) (.v (obD (some R))) (.v (.int P)) .u .u (.v (rr os (nd os R))) .u .u (.o (.list (rr os (nd os R) :: es))) s13 .u .u .u (.v (.int z)) .u .u .u .u .u .u sc) := by
  have er : rr os (nd os R) = .tuple [.int R, iD (nd os R)] := by
    unfold rr
    rw [rn_fw h.h f]
  rw [er]
  generalize iD (nd os R) = N at *
  generalize iD os = O at *
  generalize obD bf = bb at *
  unfold obD
  simp [fIx]
end
end K10
end
section
set_option Elab.async false
set_option linter.all false
set_option maxRecDepth 100000
set_option maxHeartbeats 4000000
namespace K10
open PySem L2 Pd
section
variable {sc d : D} {wd : Int} {os row : List Int} {bf : Option Int} {s5 s6 s7 s9 s12 s13 s14 s15 s17 : Sl} {P : Nat} {R z : Int} {es : List D}
theorem st_places (h : Os wd os) : ∃ t5 t6 t9 t12 t13 t17, L6 (fr (.o d) (.v (.int wd)) (.v (iD os)) (.v (.int os.length)) (.v (obD none)) .u .u .u .u .u .u .u .u .u .u .u .u .u .u .u .u .u .u sc) = .nx (fr (.o d) (.v (.int wd)) (.v (iD os)) (.v (.int os.length)) t5 t6 .u .u t9 .u .u t12 t13 .u .u .u t17 .u .u .u .u .u .u sc) := by
  have l0 := h.h.l0
  have l4 := h.l
  obtain ⟨ρ', l, bf, s6, s9, s12, s13, s17, hb, rfl⟩ := forF_tab (t := tgN 6) (S := (sSeq (sSet 12 (eBlt fSortI (aCons (eLc [13] (tgN 13) (eOpT (fNotIn false) (eC (.int 0)) (eVar 13)) (eTup (aCons (eCall 2 fn__law_runs (aCons (eVar 3) (aCons (eVar 13) (aNil)))) (aCons (eVar 13) (aNil)))) (iSeq (eCall 2 fn__law_layouts (aCons (eVar 4) (aCons (eVar 6) (aNil)))))) (aNil)))) (sSeq (sSet 9 (eIf (eOpT fNe (eVar 12) (eLst (aNil))) (eOp (fIx false) (eVar 12) (eC (.int 0))) (eTup (aCons (eC .none) (aCons (eC .none) (aNil)))))) (sSeq (sIf (eOr (eNot (eB (eCall 2 fn__law_alike (aCons (eLst (aCons (eCall 3 fn__law_told (aCons (eC (.int 0)) (aCons (eVar 3) (aCons (eVar 6) (aNil))))) (aCons (eCall 3 fn__law_told (aCons (eC (.int 1)) (aCons (eVar 3) (aCons (eVar 6) (aNil))))) (aNil)))) (aCons (eLst (aCons (eOp (fIx false) (eVar 9) (eC (.int 0))) (aCons (eOp (fIx false) (eVar 9) (eC (.int 1))) (aNil)))) (aNil)))))) (eOpT fNe (eOp (boolRes fEq) (eVar 12) (eLst (aNil))) (eOp (boolRes fLt) (eVar 6) (eVar 4)))) (sRet (eC (.bool false))) (sNx)) (sIf (eOpT fNe (eVar 12) (eLst (aNil))) (sSeq (sSet 17 (eBlt fMax (aCons (eOp fDiv (eOp fSub (eOp fAdd (eBlt fSum (aCons (eVar 3) (aNil))) (eVar 6)) (eC (.int 1))) (eVar 6)) (aCons (eOp fDiv (eOp fSub (eOp fAdd (eBlt fMax (aCons (eVar 3) (aNil))) (eVar 6)) (eVar 4)) (eOp fAdd (eOp fSub (eVar 6) (eVar 4)) (eC (.int 1)))) (aNil))))) (sSeq (sIf (eOr (eOpT fLt (eOp (fIx false) (eVar 9) (eC (.int 0))) (eVar 17)) (eOr (eAnd (eOpT fNotN (eVar 5) (eC .none)) (eOpT fGt (eOp (fIx false) (eVar 9) (eC (.int 0))) (eVar 5))) (eOpT fNe (eCall 2 fn__law_given (aCons (eVar 3) (aCons (eVar 6) (aNil)))) (eOp (fIx false) (eVar 9) (eC (.int 0)))))) (sRet (eC (.bool false))) (sNx)) (sSeq (sIf (eOr (eOpT fNe (eLc [22] (tgN 22) (eOpT fLe (eBlt fSum (aCons (eLc [19] (tgN 19) (tTrue) (eOp fDiv (eOp fSub (eOp fAdd (eVar 19) (eVar 22)) (eC (.int 1))) (eVar 22)) (iSeq (eVar 3))) (aNil))) (eVar 6)) (eVar 22) (iRange rng2 (aCons (eC (.int 1)) (aCons (eBlt fMin (aCons (eOp (fIx false) (eVar 9) (eC (.int 0))) (aCons (eC (.int 40)) (aNil)))) (aNil))))) (eLst (aNil))) (eOpT fGt (eBlt fSum (aCons (eLc [19] (tgN 19) (tTrue) (eOp fDiv (eOp fSub (eOp fAdd (eVar 19) (eOp (fIx false) (eVar 9) (eC (.int 0)))) (eC (.int 1))) (eOp (fIx false) (eVar 9) (eC (.int 0)))) (iSeq (eVar 3))) (aNil))) (eVar 6))) (sRet (eC (.bool false))) (sNx)) (sSet 5 (eOp (fIx false) (eVar 9) (eC (.int 0))))))) (sNx)))))) (f := fun j => PyData.int (1 + (j : Nat))) (n := 8) (fun i ρ => ∃ bf s6 s9 s12 s13 s17, (∀ v, bf = some v → Fw os (i : Nat) v) ∧ ρ = (fr (.o d) (.v (.int wd)) (.v (iD os)) (.v (.int os.length)) (.v (obD bf)) s6 .u .u s9 .u .u s12 s13 .u .u .u s17 .u .u .u .u .u .u sc)) (by
    rintro i hi ρ ⟨bf, s6, s9, s12, s13, s17, hb, rfl⟩
    have ei : (1 : Int) + (i : Nat) = ((i + 1 : Nat) : Int) := by omega
    obtain ⟨t13, e1⟩ := st_rows (sc := sc) (d := d) (bf := bf) (s9 := s9) (s12 := s12) (s13 := s13) (s17 := s17) (s19 := .u) (s22 := .u) (P := i + 1) h (by omega) (by omega)
    by_cases c : i + 1 < os.length
    · have bn : bf = none := by
        cases bf with
        | none => rfl
        | some v =>
          have f := hb v rfl
          have s := sum_ge (nd_pos h.h f.p)
          have := f.s
          rw [nd_len] at s
          omega
      rw [fulls_none c] at e1
      have en : (([] : List (List Int)).map (rr os)).mergeSort dLe = [] := by simp
      rw [en] at e1
      refine ⟨(fr (.o d) (.v (.int wd)) (.v (iD os)) (.v (.int os.length)) (.v (obD bf)) (.v (.int (1 + (i : Nat)))) .u .u s9 .u .u s12 s13 .u .u .u s17 .u .u .u .u .u .u sc), (fr (.o d) (.v (.int wd)) (.v (iD os)) (.v (.int os.length)) (.v (obD bf)) (.v (.int ((i + 1 : Nat)))) .u .u (.v (.tuple [.none, .none])) .u .u (.o (.list [])) t13 .u .u .u s17 .u .u .u .u .u .u sc), rfl, .inl ?_, bf, _, _, _, _, _, (fun v e => by rw [bn] at e; cases e), rfl⟩
      rw [ei]
      exact seq_nx e1 (seq_nx (none_due h) (seq_nx (none_told h (by omega) (by omega) c) (none_rest h)))
    · obtain ⟨R, f⟩ := fw_ex h.h (places := ((i + 1 : Nat) : Int)) (by omega)
      obtain ⟨es, he⟩ := sort_rows h.h f
      have hr : ∀ y ∈ rr os (nd os R) :: es, ∃ row, y = rr os row := fun y hy => by
        rw [← he] at hy
        obtain ⟨row, _, e⟩ := List.mem_map.mp ((List.mergeSort_perm _ _).mem_iff.mp hy)
        exact ⟨row, e.symm⟩
      rw [he] at e1
      obtain ⟨z, hz, e5⟩ := some_least (sc := sc) (d := d) (bf := bf) (s13 := t13) (s17 := s17) (es := es) h (by omega) (by omega) (by omega) f
      have hb2 : ∀ v, bf = some v → R ≤ v := fun v e => by
        have g := hb v e
        exact fw_le h.h f g.p (by have := g.s; omega)
      refine ⟨(fr (.o d) (.v (.int wd)) (.v (iD os)) (.v (.int os.length)) (.v (obD bf)) (.v (.int (1 + (i : Nat)))) .u .u s9 .u .u s12 s13 .u .u .u s17 .u .u .u .u .u .u sc), (fr (.o d) (.v (.int wd)) (.v (iD os)) (.v (.int os.length)) (.v (obD (some R))) (.v (.int ((i + 1 : Nat)))) .u .u (.v (rr os (nd os R))) .u .u (.o (.list (rr os (nd os R) :: es))) t13 .u .u .u (.v (.int z)) .u .u .u .u .u .u sc), rfl, .inl ?_, some R, _, _, _, _, _, (fun v e => by cases e; exact f), rfl⟩
      rw [ei]
      refine seq_nx e1 (seq_nx (some_due hr) (seq_nx (some_told h (by omega) (by omega) f hr) ?_))
      have ne := ne_rows hr
      have go : (sSeq (sSet 17 (eBlt fMax (aCons (eOp fDiv (eOp fSub (eOp fAdd (eBlt fSum (aCons (eVar 3) (aNil))) (eVar 6)) (eC (.int 1))) (eVar 6)) (aCons (eOp fDiv (eOp fSub (eOp fAdd (eBlt fMax (aCons (eVar 3) (aNil))) (eVar 6)) (eVar 4)) (eOp fAdd (eOp fSub (eVar 6) (eVar 4)) (eC (.int 1)))) (aNil))))) (sSeq (sIf (eOr (eOpT fLt (eOp (fIx false) (eVar 9) (eC (.int 0))) (eVar 17)) (eOr (eAnd (eOpT fNotN (eVar 5) (eC .none)) (eOpT fGt (eOp (fIx false) (eVar 9) (eC (.int 0))) (eVar 5))) (eOpT fNe (eCall 2 fn__law_given (aCons (eVar 3) (aCons (eVar 6) (aNil)))) (eOp (fIx false) (eVar 9) (eC (.int 0)))))) (sRet (eC (.bool false))) (sNx)) (sSeq (sIf (eOr (eOpT fNe (eLc [22] (tgN 22) (eOpT fLe (eBlt fSum (aCons (eLc [19] (tgN 19) (tTrue) (eOp fDiv (eOp fSub (eOp fAdd (eVar 19) (eVar 22)) (eC (.int 1))) (eVar 22)) (iSeq (eVar 3))) (aNil))) (eVar 6)) (eVar 22) (iRange rng2 (aCons (eC (.int 1)) (aCons (eBlt fMin (aCons (eOp (fIx false) (eVar 9) (eC (.int 0))) (aCons (eC (.int 40)) (aNil)))) (aNil))))) (eLst (aNil))) (eOpT fGt (eBlt fSum (aCons (eLc [19] (tgN 19) (tTrue) (eOp fDiv (eOp fSub (eOp fAdd (eVar 19) (eOp (fIx false) (eVar 9) (eC (.int 0)))) (eC (.int 1))) (eOp (fIx false) (eVar 9) (eC (.int 0)))) (iSeq (eVar 3))) (aNil))) (eVar 6))) (sRet (eC (.bool false))) (sNx)) (sSet 5 (eOp (fIx false) (eVar 9) (eC (.int 0))))))) (fr (.o d) (.v (.int wd)) (.v (iD os)) (.v (.int os.length)) (.v (obD bf)) (.v (.int ((i + 1 : Nat)))) .u .u (.v (rr os (nd os R))) .u .u (.o (.list (rr os (nd os R) :: es))) t13 .u .u .u s17 .u .u .u .u .u .u sc) = .nx (fr (.o d) (.v (.int wd)) (.v (iD os)) (.v (.int os.length)) (.v (obD (some R))) (.v (.int ((i + 1 : Nat)))) .u .u (.v (rr os (nd os R))) .u .u (.o (.list (rr os (nd os R) :: es))) t13 .u .u .u (.v (.int z)) .u .u .u .u .u .u sc) := seq_nx e5 (seq_nx (some_same h (by omega) (by omega) (by omega) f hz hb2) (seq_nx (some_near h (by omega) (by omega) f) (some_bef h f)))
      generalize (sSeq (sSet 17 (eBlt fMax (aCons (eOp fDiv (eOp fSub (eOp fAdd (eBlt fSum (aCons (eVar 3) (aNil))) (eVar 6)) (eC (.int 1))) (eVar 6)) (aCons (eOp fDiv (eOp fSub (eOp fAdd (eBlt fMax (aCons (eVar 3) (aNil))) (eVar 6)) (eVar 4)) (eOp fAdd (eOp fSub (eVar 6) (eVar 4)) (eC (.int 1)))) (aNil))))) (sSeq (sIf (eOr (eOpT fLt (eOp (fIx false) (eVar 9) (eC (.int 0))) (eVar 17)) (eOr (eAnd (eOpT fNotN (eVar 5) (eC .none)) (eOpT fGt (eOp (fIx false) (eVar 9) (eC (.int 0))) (eVar 5))) (eOpT fNe (eCall 2 fn__law_given (aCons (eVar 3) (aCons (eVar 6) (aNil)))) (eOp (fIx false) (eVar 9) (eC (.int 0)))))) (sRet (eC (.bool false))) (sNx)) (sSeq (sIf (eOr (eOpT fNe (eLc [22] (tgN 22) (eOpT fLe (eBlt fSum (aCons (eLc [19] (tgN 19) (tTrue) (eOp fDiv (eOp fSub (eOp fAdd (eVar 19) (eVar 22)) (eC (.int 1))) (eVar 22)) (iSeq (eVar 3))) (aNil))) (eVar 6)) (eVar 22) (iRange rng2 (aCons (eC (.int 1)) (aCons (eBlt fMin (aCons (eOp (fIx false) (eVar 9) (eC (.int 0))) (aCons (eC (.int 40)) (aNil)))) (aNil))))) (eLst (aNil))) (eOpT fGt (eBlt fSum (aCons (eLc [19] (tgN 19) (tTrue) (eOp fDiv (eOp fSub (eOp fAdd (eVar 19) (eOp (fIx false) (eVar 9) (eC (.int 0)))) (eC (.int 1))) (eOp (fIx false) (eVar 9) (eC (.int 0)))) (iSeq (eVar 3))) (aNil))) (eVar 6))) (sRet (eC (.bool false))) (sNx)) (sSet 5 (eOp (fIx false) (eVar 9) (eC (.int 0))))))) = S at *
      clear e5 e1 hr he
      generalize rr os (nd os R) = r0 at *
      generalize iD os = O at *
      generalize obD bf = bb at *
      simp [ne]
      exact go) (ρ := (fr (.o d) (.v (.int wd)) (.v (iD os)) (.v (.int os.length)) (.v (obD none)) .u .u .u .u .u .u .u .u .u .u .u .u .u .u .u .u .u .u sc)) ⟨none, .u, .u, .u, .u, .u, fun v e => (nomatch e), rfl⟩
  rw [← rng_tab] at l
  refine ⟨.v (obD bf), s6, s9, s12, s13, s17, ?_⟩
  have r1 : rngOk 1 = true := rngOk_s (by decide) (by decide)
  have r9 : rngOk 9 = true := rngOk_s (by decide) (by decide)
  unfold L6
  generalize (sSeq (sSet 12 (eBlt fSortI (aCons (eLc [13] (tgN 13) (eOpT (fNotIn false) (eC (.int 0)) (eVar 13)) (eTup (aCons (eCall 2 fn__law_runs (aCons (eVar 3) (aCons (eVar 13) (aNil)))) (aCons (eVar 13) (aNil)))) (iSeq (eCall 2 fn__law_layouts (aCons (eVar 4) (aCons (eVar 6) (aNil)))))) (aNil)))) (sSeq (sSet 9 (eIf (eOpT fNe (eVar 12) (eLst (aNil))) (eOp (fIx false) (eVar 12) (eC (.int 0))) (eTup (aCons (eC .none) (aCons (eC .none) (aNil)))))) (sSeq (sIf (eOr (eNot (eB (eCall 2 fn__law_alike (aCons (eLst (aCons (eCall 3 fn__law_told (aCons (eC (.int 0)) (aCons (eVar 3) (aCons (eVar 6) (aNil))))) (aCons (eCall 3 fn__law_told (aCons (eC (.int 1)) (aCons (eVar 3) (aCons (eVar 6) (aNil))))) (aNil)))) (aCons (eLst (aCons (eOp (fIx false) (eVar 9) (eC (.int 0))) (aCons (eOp (fIx false) (eVar 9) (eC (.int 1))) (aNil)))) (aNil)))))) (eOpT fNe (eOp (boolRes fEq) (eVar 12) (eLst (aNil))) (eOp (boolRes fLt) (eVar 6) (eVar 4)))) (sRet (eC (.bool false))) (sNx)) (sIf (eOpT fNe (eVar 12) (eLst (aNil))) (sSeq (sSet 17 (eBlt fMax (aCons (eOp fDiv (eOp fSub (eOp fAdd (eBlt fSum (aCons (eVar 3) (aNil))) (eVar 6)) (eC (.int 1))) (eVar 6)) (aCons (eOp fDiv (eOp fSub (eOp fAdd (eBlt fMax (aCons (eVar 3) (aNil))) (eVar 6)) (eVar 4)) (eOp fAdd (eOp fSub (eVar 6) (eVar 4)) (eC (.int 1)))) (aNil))))) (sSeq (sIf (eOr (eOpT fLt (eOp (fIx false) (eVar 9) (eC (.int 0))) (eVar 17)) (eOr (eAnd (eOpT fNotN (eVar 5) (eC .none)) (eOpT fGt (eOp (fIx false) (eVar 9) (eC (.int 0))) (eVar 5))) (eOpT fNe (eCall 2 fn__law_given (aCons (eVar 3) (aCons (eVar 6) (aNil)))) (eOp (fIx false) (eVar 9) (eC (.int 0)))))) (sRet (eC (.bool false))) (sNx)) (sSeq (sIf (eOr (eOpT fNe (eLc [22] (tgN 22) (eOpT fLe (eBlt fSum (aCons (eLc [19] (tgN 19) (tTrue) (eOp fDiv (eOp fSub (eOp fAdd (eVar 19) (eVar 22)) (eC (.int 1))) (eVar 22)) (iSeq (eVar 3))) (aNil))) (eVar 6)) (eVar 22) (iRange rng2 (aCons (eC (.int 1)) (aCons (eBlt fMin (aCons (eOp (fIx false) (eVar 9) (eC (.int 0))) (aCons (eC (.int 40)) (aNil)))) (aNil))))) (eLst (aNil))) (eOpT fGt (eBlt fSum (aCons (eLc [19] (tgN 19) (tTrue) (eOp fDiv (eOp fSub (eOp fAdd (eVar 19) (eOp (fIx false) (eVar 9) (eC (.int 0)))) (eC (.int 1))) (eOp (fIx false) (eVar 9) (eC (.int 0)))) (iSeq (eVar 3))) (aNil))) (eVar 6))) (sRet (eC (.bool false))) (sNx)) (sSet 5 (eOp (fIx false) (eVar 9) (eC (.int 0))))))) (sNx))))) = S at *
  generalize iD os = O at *
  generalize obD bf = bb at *
  generalize obD none = b0 at *
  simp [r1, r9]
  exact l
/-! ### layouts drawn -/
theorem t_place (hd : DS d) : ∃ (d' : D) (P : Nat), DS d' ∧ (1 ≤ P ∧ P ≤ 12) ∧ (sSet 6 (eOp fAdd (eC (.int 1)) (eCallM [true, false] fn__law_take (aCons (eVar 1) (aCons (eC (.int 12)) (aNil)))))) (fr (.o d) (.v (.int wd)) (.v (iD os)) (.v (.int os.length)) s5 s6 s7 .u s9 .u .u s12 s13 s14 s15 .u s17 .u .u .u .u .u .u sc) = .nx (fr (.o d') (.v (.int wd)) (.v (iD os)) (.v (.int os.length)) s5 (.v (.int P)) s7 .u s9 .u .u s12 s13 s14 s15 .u s17 .u .u .u .u .u .u sc) := by
  obtain ⟨r, d1, e1, h1, r0, r1⟩ := take_ok hd (b := 12) (by decide)
  refine ⟨d1, (1 + r).toNat, h1, by omega, ?_⟩
  have e : (((1 + r).toNat : Nat) : Int) = 1 + r := by omega
  rw [e]
  generalize iD os = O at *
  simp [e1]
structure Rw (os row : List Int) : Prop where
  l : row.length = os.length
  b : ∀ x ∈ row, 0 ≤ x ∧ x ≤ 4
theorem t_row (h : Os wd os) (hd : DS d) : ∃ (d' : D) (row : List Int), DS d' ∧ Rw os row ∧ (sSet 13 (eBlt fTuple (aCons (eLc [18] (tgN 18) (tTrue) (eCallM [true, false] fn__law_take (aCons (eVar 1) (aCons (eC (.int 5)) (aNil)))) (iSeq (eVar 3))) (aNil)))) (fr (.o d) (.v (.int wd)) (.v (iD os)) (.v (.int os.length)) s5 (.v (.int P)) s7 .u s9 .u .u s12 s13 s14 s15 .u s17 .u .u .u .u .u .u sc) = .nx (fr (.o d') (.v (.int wd)) (.v (iD os)) (.v (.int os.length)) s5 (.v (.int P)) s7 .u s9 .u .u s12 (.v (iD row)) s14 s15 .u s17 .u .u .u .u .u .u sc) := by
  have l4 := h.l
  obtain ⟨g, ρ', c1, ⟨d2, h2, rfl⟩, c3⟩ := compF_invT (vs := [18]) (t := tgN 18) (e := (eCallM [true, false] fn__law_take (aCons (eVar 1) (aCons (eC (.int 5)) (aNil))))) (fun ρ => ∃ d, DS d ∧ ρ = (fr (.o d) (.v (.int wd)) (.v (iD os)) (.v (.int os.length)) s5 (.v (.int P)) s7 .u s9 .u .u s12 s13 s14 s15 .u s17 .u .u .u .u .u .u sc)) (f := fun k => .int (os.getD k 0)) (n := os.length) (fun _ x => ∃ q : Int, x = .int q ∧ 0 ≤ q ∧ q ≤ 4) (by
    rintro i hi ρ ⟨d, hd, rfl⟩
    obtain ⟨q, d2, e2, h2, q0, q1⟩ := take_ok hd (b := 5) (by decide)
    refine ⟨(fr (.o d) (.v (.int wd)) (.v (iD os)) (.v (.int os.length)) s5 (.v (.int P)) s7 .u s9 .u .u s12 s13 s14 s15 .u s17 (.v (.int (os.getD i 0))) .u .u .u .u .u sc), .v (.int q), (fr (.o d2) (.v (.int wd)) (.v (iD os)) (.v (.int os.length)) s5 (.v (.int P)) s7 .u s9 .u .u s12 s13 s14 s15 .u s17 (.v (.int (os.getD i 0))) .u .u .u .u .u sc), .int q, (fr (.o d2) (.v (.int wd)) (.v (iD os)) (.v (.int os.length)) s5 (.v (.int P)) s7 .u s9 .u .u s12 s13 s14 s15 .u s17 (.v (.int (os.getD i 0))) .u .u .u .u .u sc), rfl, ?_, rfl, ⟨q, rfl, by omega, by omega⟩, d2, h2, rfl⟩
    generalize iD os = O at *
    generalize os.getD i 0 = x at *
    simp [e2]) (ρ := (fr (.o d) (.v (.int wd)) (.v (iD os)) (.v (.int os.length)) s5 (.v (.int P)) s7 .u s9 .u .u s12 s13 s14 s15 .u s17 .u .u .u .u .u .u sc)) ⟨d, hd, rfl⟩
  rw [← map_tab] at c1
  have em : tab g os.length = ((List.range os.length).map fun i => dInt (g i)).map PyData.int := by
    rw [← tab_int]
    exact tab_ints fun i hi => let ⟨q, e, _⟩ := c3 i hi; ⟨q, e⟩
  rw [em] at c1
  refine ⟨d2, (List.range os.length).map fun i => dInt (g i), h2, ⟨by simp, fun x hx => ?_⟩, ?_⟩
  · obtain ⟨i, hi, rfl⟩ := List.mem_map.mp hx
    obtain ⟨q, e, q0, q1⟩ := c3 i (List.mem_range.mp hi)
    rw [e]
    exact ⟨q0, q1⟩
  · have ln : lineOk os.length = true := lineOk_s (by omega)
    have lo : (os.map PyData.int).length = os.length := List.length_map _
    unfold iD at *
    generalize ((List.range os.length).map fun i => dInt (g i)).map PyData.int = R at *
    generalize os.map PyData.int = O at *
    simp [lo, ln]
    rw [c1]
    simp
theorem t_is (h : Os wd os) (hr : Rw os row) : (sIf (eNot (eB (eCall 2 fn__law_says (aCons (eCall 3 fn_is_layout (aCons (eVar 3) (aCons (eVar 6) (aCons (eVar 13) (aNil))))) (aCons (eAndV (eOp (boolRes fLe) (eBlt fSum (aCons (eVar 13) (aNil))) (eVar 6)) (eOp (boolRes fLe) (eBlt fMax (aCons (eVar 13) (aNil))) (eVar 6))) (aNil)))))) (sRet (eC (.bool false))) (sNx)) (fr (.o d) (.v (.int wd)) (.v (iD os)) (.v (.int os.length)) s5 (.v (.int P)) s7 .u s9 .u .u s12 (.v (iD row)) s14 s15 .u s17 .u .u .u .u .u .u sc) = .nx (fr (.o d) (.v (.int wd)) (.v (iD os)) (.v (.int os.length)) s5 (.v (.int P)) s7 .u s9 .u .u s12 (.v (iD row)) s14 s15 .u s17 .u .u .u .u .u .u sc) := by
  have l0 := h.h.l0
  have l4 := h.l
  have rl := hr.l
  have lk := layout_ok (os := os) (row := row) (places := (P : Int)) rl (by omega)
  have st := sum_t row
  have ne : row ≠ [] := ne_len (by omega)
  have mt := max_t ne
  have ea : row.all (inL P) = decide (mxl row ≤ P) := by
    rw [Bool.eq_iff_iff, List.all_eq_true, decide_eq_true_iff]
    constructor
    · intro a
      have := a _ (mxl_mem ne)
      unfold inL at this
      rw [Bool.and_eq_true, decide_eq_true_iff, decide_eq_true_iff] at this
      exact this.2
    · intro a x hx
      have h1 := mxl_le hx
      have h2 := (hr.b x hx).1
      unfold inL
      rw [decide_eq_true h2, decide_eq_true (by omega : x ≤ P)]
      rfl
  rw [ea] at lk
  have s := says_ok (decide (mxl row ≤ P) && decide (row.sum ≤ P)) (decide (row.sum ≤ P) && decide (mxl row ≤ P))
  unfold iD at *
  generalize row.sum = u at *
  generalize mxl row = v at *
  generalize os.map PyData.int = O at *
  generalize row.map PyData.int = W at *
  by_cases c1 : u ≤ P <;> by_cases c2 : v ≤ P <;> simp [c1, c2] at s lk <;> simp [lk, st, mt, s, c1, c2]
def rvD (os row : List Int) : D := if 0 ∈ row then .none else .int (rn os row)
def wvD (os row : List Int) : D := if 0 ∈ row then .none else .int (rn os row * row.sum - os.sum)
theorem t_runs (h : Os wd os) (hr : Rw os row) : (sSet 14 (eCall 2 fn__law_runs (aCons (eVar 3) (aCons (eVar 13) (aNil))))) (fr (.o d) (.v (.int wd)) (.v (iD os)) (.v (.int os.length)) s5 (.v (.int P)) s7 .u s9 .u .u s12 (.v (iD row)) s14 s15 .u s17 .u .u .u .u .u .u sc) = .nx (fr (.o d) (.v (.int wd)) (.v (iD os)) (.v (.int os.length)) s5 (.v (.int P)) s7 .u s9 .u .u s12 (.v (iD row)) (.v (rvD os row)) s15 .u s17 .u .u .u .u .u .u sc) := by
  have l0 := h.h.l0
  have lr : fn__law_runs [iD os, iD row] = .ret (rvD os row) [] := by
    unfold rvD
    split
    · rename_i c
      exact lruns_none c
    · rename_i c
      exact lruns_ok (by omega) h.h.l1 hr.l c fun x hx => by
        have := hr.b x hx
        omega
  generalize rvD os row = z at *
  generalize iD os = O at *
  generalize iD row = W at *
  simp [lr]
theorem rw_row (hr : Rw os row) : Row os row := ⟨hr.l, fun x hx => by
  have := hr.b x hx
  omega⟩
theorem t_waste (h : Os wd os) (hr : Rw os row) : (sSet 15 (eIf (eOpT fNotN (eVar 14) (eC .none)) (eBlt fSum (aCons (eLc [22] (tgN 22) (tTrue) (eOp fSub (eOp fMul (eVar 14) (eOp (fIx false) (eVar 13) (eVar 22))) (eOp (fIx false) (eVar 3) (eVar 22))) (iRange rng1 (aCons (eVar 4) (aNil)))) (aNil))) (eC .none))) (fr (.o d) (.v (.int wd)) (.v (iD os)) (.v (.int os.length)) s5 (.v (.int P)) s7 .u s9 .u .u s12 (.v (iD row)) (.v (rvD os row)) s15 .u s17 .u .u .u .u .u .u sc) = .nx (fr (.o d) (.v (.int wd)) (.v (iD os)) (.v (.int os.length)) s5 (.v (.int P)) s7 .u s9 .u .u s12 (.v (iD row)) (.v (rvD os row)) (.v (wvD os row)) .u s17 .u .u .u .u .u .u sc) := by
  have l4 := h.l
  have rl := hr.l
  by_cases c : 0 ∈ row
  · unfold rvD wvD
    rw [if_pos c, if_pos c]
    generalize iD os = O at *
    generalize iD row = W at *
    simp [fNotN, isNone]
  · unfold rvD wvD
    rw [if_neg c, if_neg c]
    have hi := rn_hi h.h (rw_row hr) c
    have ws := wsum (rw_row hr) (rn os row)
    have cf := compF_all (vs := [22]) (g := tgN 22) (e := (eOp fSub (eOp fMul (eVar 14) (eOp (fIx false) (eVar 13) (eVar 22))) (eOp (fIx false) (eVar 3) (eVar 22)))) (ρ := (fr (.o d) (.v (.int wd)) (.v (iD os)) (.v (.int os.length)) s5 (.v (.int P)) s7 .u s9 .u .u s12 (.v (iD row)) (.v (.int (rn os row))) s15 .u s17 .u .u .u .u .u .u sc)) (fun k : Nat => PyData.int (k : Int)) (fun k => PyData.int (rn os row * row.getD k 0 - os.getD k 0)) (List.range os.length) (fun k hk => by
      have hk := List.mem_range.mp hk
      have a1 := at_map (xs := os) hk
      have a2 := at_map (xs := row) (k := k) (by omega)
      have b2 := hr.b _ (get_mem (xs := row) (k := k) (by omega))
      have m : mulFits (rn os row) (row.getD k 0) = true := fits_r ⟨by omega, by omega⟩
      refine ⟨(fr (.o d) (.v (.int wd)) (.v (iD os)) (.v (.int os.length)) s5 (.v (.int P)) s7 .u s9 .u .u s12 (.v (iD row)) (.v (.int (rn os row))) s15 .u s17 .u .u .u .u (.v (.int k)) .u sc), .v (.int (rn os row * row.getD k 0 - os.getD k 0)), (fr (.o d) (.v (.int wd)) (.v (iD os)) (.v (.int os.length)) s5 (.v (.int P)) s7 .u s9 .u .u s12 (.v (iD row)) (.v (.int (rn os row))) s15 .u s17 .u .u .u .u (.v (.int k)) .u sc), (fr (.o d) (.v (.int wd)) (.v (iD os)) (.v (.int os.length)) s5 (.v (.int P)) s7 .u s9 .u .u s12 (.v (iD row)) (.v (.int (rn os row))) s15 .u s17 .u .u .u .u (.v (.int k)) .u sc), rfl, ?_, rfl, rfl⟩
      unfold iD
      generalize row.getD k 0 = x at *
      generalize os.getD k 0 = y at *
      generalize rn os row = z at *
      generalize os.map PyData.int = O at *
      generalize row.map PyData.int = W at *
      simp [fIx, a1, a2, m])
    have ec : (List.range os.length).map (fun k => PyData.int (rn os row * row.getD k 0 - os.getD k 0)) = ((List.range os.length).map fun k => rn os row * row.getD k 0 - os.getD k 0).map PyData.int := by
      rw [List.map_map]
      rfl
    have su := sum_l ((List.range os.length).map fun k => rn os row * row.getD k 0 - os.getD k 0)
    rw [ws] at su
    rw [ec, ← rng_n] at cf
    have rg : rngOk (os.length : Int) = true := rngOk_s (by omega) (by omega)
    have ln : lineOk os.length = true := lineOk_s (by omega)
    generalize ((List.range os.length).map fun k => rn os row * row.getD k 0 - os.getD k 0).map PyData.int = C at *
    generalize rn os row * row.sum - os.sum = w at *
    generalize rn os row = z at *
    generalize iD os = O at *
    generalize iD row = W at *
    simp [fNotN, isNone, rg, ln]
    rw [cf]
    simp [su]
theorem t_same (h : Os wd os) (hr : Rw os row) : (sIf (eNot (eB (eCall 2 fn__law_alike (aCons (eLst (aCons (eCall 2 fn_runs_of (aCons (eVar 3) (aCons (eVar 13) (aNil)))) (aCons (eCall 2 fn_waste_of (aCons (eVar 3) (aCons (eVar 13) (aNil)))) (aNil)))) (aCons (eLst (aCons (eVar 14) (aCons (eVar 15) (aNil)))) (aNil)))))) (sRet (eC (.bool false))) (sNx)) (fr (.o d) (.v (.int wd)) (.v (iD os)) (.v (.int os.length)) s5 (.v (.int P)) s7 .u s9 .u .u s12 (.v (iD row)) (.v (rvD os row)) (.v (wvD os row)) .u s17 .u .u .u .u .u .u sc) = .nx (fr (.o d) (.v (.int wd)) (.v (iD os)) (.v (.int os.length)) s5 (.v (.int P)) s7 .u s9 .u .u s12 (.v (iD row)) (.v (rvD os row)) (.v (wvD os row)) .u s17 .u .u .u .u .u .u sc) := by
  have r1 : fn_runs_of [iD os, iD row] = .ret (rvD os row) [] := by
    unfold rvD
    split
    · rename_i c
      exact runs_none h.h (rw_row hr) c
    · rename_i c
      exact runs_ok h.h (rw_row hr) c
  have w1 : fn_waste_of [iD os, iD row] = .ret (wvD os row) [] := by
    unfold wvD
    split
    · rename_i c
      exact waste_none h.h (rw_row hr) c
    · rename_i c
      exact waste_ok h.h (rw_row hr) c
  have al := alike_two (a := rvD os row) (b := wvD os row) (fun n => by
    unfold rvD
    split
    · exact fr_none (n + 1)
    · exact fr_int (n + 1) _) (fun n => by
    unfold wvD
    split
    · exact fr_none (n + 1)
    · exact fr_int (n + 1) _)
  generalize rvD os row = x at *
  generalize wvD os row = y at *
  generalize iD os = O at *
  generalize iD row = W at *
  simp [r1, w1, al]
theorem st_turns (h : Os wd os) (hd : DS d) : ∃ d' t6 t7 t13 t14 t15, DS d' ∧ L7 (fr (.o d) (.v (.int wd)) (.v (iD os)) (.v (.int os.length)) s5 s6 s7 .u s9 .u .u s12 s13 s14 s15 .u s17 .u .u .u .u .u .u sc) = .nx (fr (.o d') (.v (.int wd)) (.v (iD os)) (.v (.int os.length)) s5 t6 t7 .u s9 .u .u s12 t13 t14 t15 .u s17 .u .u .u .u .u .u sc) := by
  obtain ⟨ρ', l, d, s6, s7, s13, s14, s15, hd, rfl⟩ := forF_tab (t := tgN 7) (S := (sSeq (sSet 6 (eOp fAdd (eC (.int 1)) (eCallM [true, false] fn__law_take (aCons (eVar 1) (aCons (eC (.int 12)) (aNil)))))) (sSeq (sSet 13 (eBlt fTuple (aCons (eLc [18] (tgN 18) (tTrue) (eCallM [true, false] fn__law_take (aCons (eVar 1) (aCons (eC (.int 5)) (aNil)))) (iSeq (eVar 3))) (aNil)))) (sSeq (sIf (eNot (eB (eCall 2 fn__law_says (aCons (eCall 3 fn_is_layout (aCons (eVar 3) (aCons (eVar 6) (aCons (eVar 13) (aNil))))) (aCons (eAndV (eOp (boolRes fLe) (eBlt fSum (aCons (eVar 13) (aNil))) (eVar 6)) (eOp (boolRes fLe) (eBlt fMax (aCons (eVar 13) (aNil))) (eVar 6))) (aNil)))))) (sRet (eC (.bool false))) (sNx)) (sSeq (sSet 14 (eCall 2 fn__law_runs (aCons (eVar 3) (aCons (eVar 13) (aNil))))) (sSeq (sSet 15 (eIf (eOpT fNotN (eVar 14) (eC .none)) (eBlt fSum (aCons (eLc [22] (tgN 22) (tTrue) (eOp fSub (eOp fMul (eVar 14) (eOp (fIx false) (eVar 13) (eVar 22))) (eOp (fIx false) (eVar 3) (eVar 22))) (iRange rng1 (aCons (eVar 4) (aNil)))) (aNil))) (eC .none))) (sIf (eNot (eB (eCall 2 fn__law_alike (aCons (eLst (aCons (eCall 2 fn_runs_of (aCons (eVar 3) (aCons (eVar 13) (aNil)))) (aCons (eCall 2 fn_waste_of (aCons (eVar 3) (aCons (eVar 13) (aNil)))) (aNil)))) (aCons (eLst (aCons (eVar 14) (aCons (eVar 15) (aNil)))) (aNil)))))) (sRet (eC (.bool false))) (sNx)))))))) (f := fun j => PyData.int (0 + (j : Nat))) (n := 6) (fun i ρ => ∃ d s6 s7 s13 s14 s15, DS d ∧ ρ = (fr (.o d) (.v (.int wd)) (.v (iD os)) (.v (.int os.length)) s5 s6 s7 .u s9 .u .u s12 s13 s14 s15 .u s17 .u .u .u .u .u .u sc)) (by
    rintro i hi ρ ⟨d, s6, s7, s13, s14, s15, hd, rfl⟩
    obtain ⟨d1, P, h1, hP, e1⟩ := t_place (sc := sc) (d := d) (wd := wd) (os := os) (s5 := s5) (s6 := s6) (s7 := .v (.int (0 + (i : Nat)))) (s9 := s9) (s12 := s12) (s13 := s13) (s14 := s14) (s15 := s15) (s17 := s17) hd
    obtain ⟨d2, row, h2, hr, e2⟩ := t_row (sc := sc) (d := d1) (P := P) (s5 := s5) (s7 := .v (.int (0 + (i : Nat)))) (s9 := s9) (s12 := s12) (s13 := s13) (s14 := s14) (s15 := s15) (s17 := s17) h h1
    refine ⟨(fr (.o d) (.v (.int wd)) (.v (iD os)) (.v (.int os.length)) s5 s6 (.v (.int (0 + (i : Nat)))) .u s9 .u .u s12 s13 s14 s15 .u s17 .u .u .u .u .u .u sc), (fr (.o d2) (.v (.int wd)) (.v (iD os)) (.v (.int os.length)) s5 (.v (.int P)) (.v (.int (0 + (i : Nat)))) .u s9 .u .u s12 (.v (iD row)) (.v (rvD os row)) (.v (wvD os row)) .u s17 .u .u .u .u .u .u sc), rfl, .inl ?_, d2, _, _, _, _, _, h2, rfl⟩
    exact seq_nx e1 (seq_nx e2 (seq_nx (t_is h hr) (seq_nx (t_runs h hr) (seq_nx (t_waste h hr) (t_same h hr)))))) (ρ := (fr (.o d) (.v (.int wd)) (.v (iD os)) (.v (.int os.length)) s5 s6 s7 .u s9 .u .u s12 s13 s14 s15 .u s17 .u .u .u .u .u .u sc)) ⟨d, s6, s7, s13, s14, s15, hd, rfl⟩
  rw [← rng_tab] at l
  refine ⟨d, s6, s7, s13, s14, s15, hd, ?_⟩
  have r6 : rngOk 6 = true := rngOk_s (by decide) (by decide)
  unfold L7
  generalize (sSeq (sSet 6 (eOp fAdd (eC (.int 1)) (eCallM [true, false] fn__law_take (aCons (eVar 1) (aCons (eC (.int 12)) (aNil)))))) (sSeq (sSet 13 (eBlt fTuple (aCons (eLc [18] (tgN 18) (tTrue) (eCallM [true, false] fn__law_take (aCons (eVar 1) (aCons (eC (.int 5)) (aNil)))) (iSeq (eVar 3))) (aNil)))) (sSeq (sIf (eNot (eB (eCall 2 fn__law_says (aCons (eCall 3 fn_is_layout (aCons (eVar 3) (aCons (eVar 6) (aCons (eVar 13) (aNil))))) (aCons (eAndV (eOp (boolRes fLe) (eBlt fSum (aCons (eVar 13) (aNil))) (eVar 6)) (eOp (boolRes fLe) (eBlt fMax (aCons (eVar 13) (aNil))) (eVar 6))) (aNil)))))) (sRet (eC (.bool false))) (sNx)) (sSeq (sSet 14 (eCall 2 fn__law_runs (aCons (eVar 3) (aCons (eVar 13) (aNil))))) (sSeq (sSet 15 (eIf (eOpT fNotN (eVar 14) (eC .none)) (eBlt fSum (aCons (eLc [22] (tgN 22) (tTrue) (eOp fSub (eOp fMul (eVar 14) (eOp (fIx false) (eVar 13) (eVar 22))) (eOp (fIx false) (eVar 3) (eVar 22))) (iRange rng1 (aCons (eVar 4) (aNil)))) (aNil))) (eC .none))) (sIf (eNot (eB (eCall 2 fn__law_alike (aCons (eLst (aCons (eCall 2 fn_runs_of (aCons (eVar 3) (aCons (eVar 13) (aNil)))) (aCons (eCall 2 fn_waste_of (aCons (eVar 3) (aCons (eVar 13) (aNil)))) (aNil)))) (aCons (eLst (aCons (eVar 14) (aCons (eVar 15) (aNil)))) (aNil)))))) (sRet (eC (.bool false))) (sNx))))))) = S at *
  generalize iD os = O at *
  simp [r6]
  exact l
end
end K10
end
section
set_option Elab.async false
set_option linter.all false
set_option maxRecDepth 100000
set_option maxHeartbeats 4000000
namespace K10
open PySem L2 Pd
section
variable {sc d : D} {wd : Int} {os fs : List Int} {s5 s6 s7 s9 s10 s11 s12 s13 s14 s15 s16 s17 : Sl} {P : Nat}
theorem ord_dbl (h : Os wd os) (hw : wd ≤ 30) : Ord (os.map fun o => 2 * o) := ⟨by simpa using h.h.l0, by simpa using h.h.l1, fun x hx => by
  obtain ⟨o, ho, rfl⟩ := List.mem_map.mp hx
  have h1 := h.h.o o ho
  have h2 := h.b o ho
  show 1 ≤ 2 * o ∧ 2 * o ≤ 1000
  omega⟩
theorem st_dbl (h : Os wd os) : ∃ t16, L8 (fr (.o d) (.v (.int wd)) (.v (iD os)) (.v (.int os.length)) s5 s6 s7 .u s9 .u .u s12 s13 s14 s15 s16 s17 .u .u .u .u .u .u sc) = .nx (fr (.o d) (.v (.int wd)) (.v (iD os)) (.v (.int os.length)) s5 s6 s7 .u s9 .u .u s12 s13 s14 s15 t16 s17 .u .u .u .u .u .u sc) := by
  have l0 := h.h.l0
  have l4 := h.l
  by_cases c : wd < 500
  · have hw := h.w2 c
    have od := ord_dbl h hw
    obtain ⟨R, f⟩ := fw_ex h.h (places := 12) (by omega)
    obtain ⟨R2, f2⟩ := fw_ex od (places := 12) (by rw [List.length_map]; omega)
    have fp := f.p
    have fu := f.u
    have le : R2 ≤ 2 * R := fw_le od f2 (by omega) (by
      have s := sum_le (xs := os) (f := fun o => cdiv (2 * o) (2 * R)) (g := fun o => cdiv o R) (fun o ho => by
        rw [cd_le (by omega)]
        have q := (cd_le (o := o) (l := R) (r := cdiv o R) (by omega)).mp (Int.le_refl _)
        have e : cdiv o R * (2 * R) = 2 * (cdiv o R * R) := by grind
        rw [e]
        omega)
      have e : nd (os.map fun o => 2 * o) (2 * R) = os.map fun o => cdiv (2 * o) (2 * R) := by
        unfold nd
        rw [List.map_map]
        rfl
      rw [e]
      exact Int.le_trans s f.s)
    have q1 := fewest_ok h.h (places := 12) (by decide) (by decide) (by omega) f
    have q2 := fewest_ok od (places := 12) (by decide) (by decide) (by rw [List.length_map]; omega) f2
    have cf := compF_all (vs := [19]) (g := tgN 19) (e := (eOp fMul (eC (.int 2)) (eVar 19))) (ρ := (fr (.o d) (.v (.int wd)) (.v (iD os)) (.v (.int os.length)) s5 s6 s7 .u s9 .u .u s12 s13 s14 s15 s16 s17 .u .u .u .u .u .u sc)) PyData.int (fun o => PyData.int (2 * o)) os (fun o ho => by
      have b := h.h.o o ho
      have m : mulFits 2 o = true := fits_l ⟨by omega, by omega⟩
      refine ⟨(fr (.o d) (.v (.int wd)) (.v (iD os)) (.v (.int os.length)) s5 s6 s7 .u s9 .u .u s12 s13 s14 s15 s16 s17 .u (.v (.int o)) .u .u .u .u sc), .v (.int (2 * o)), (fr (.o d) (.v (.int wd)) (.v (iD os)) (.v (.int os.length)) s5 s6 s7 .u s9 .u .u s12 s13 s14 s15 s16 s17 .u (.v (.int o)) .u .u .u .u sc), (fr (.o d) (.v (.int wd)) (.v (iD os)) (.v (.int os.length)) s5 s6 s7 .u s9 .u .u s12 s13 s14 s15 s16 s17 .u (.v (.int o)) .u .u .u .u sc), rfl, ?_, rfl, rfl⟩
      generalize iD os = O at *
      simp [m])
    have ec : (os.map fun o => PyData.int (2 * o)) = (os.map fun o => 2 * o).map PyData.int := by
      rw [List.map_map]
      rfl
    rw [ec] at cf
    have ln : lineOk os.length = true := lineOk_s (by omega)
    have lo : (os.map PyData.int).length = os.length := List.length_map _
    have m2 : mulFits 2 R = true := fits_l ⟨by omega, by omega⟩
    have nl : ¬ 2 * R < R2 := by omega
    refine ⟨.v (iD (os.map fun o => 2 * o)), ?_⟩
    unfold L8
    unfold iD at *
    generalize (os.map fun o => 2 * o).map PyData.int = W at *
    generalize os.map PyData.int = O at *
    simp [c, lo, ln]
    rw [cf]
    simp [q1, q2, m2, nl]
  · refine ⟨s16, ?_⟩
    unfold L8
    generalize iD os = O at *
    simp [c]
theorem cut_3 (ds : List D) : fSl (.tuple ds) none (some 3) = some (.v (.tuple (ds.take 3))) := by
  have e : fSl (.tuple ds) none (some 3) = some (.v (.tuple (cutD ds none (some 3)))) := rfl
  rw [e]
  unfold cutD HT.sIx
  simp [List.take_eq_take_iff]
def few (os : List Int) : List Int := (os.take 3).map fun o => if 12 < o then 1 + o / 60 else o
theorem few_ord (h : Os wd os) : Ord (few os) ∧ (few os).length ≤ 3 ∧ ∀ x ∈ few os, x ≤ 12 := by
  have l0 := h.h.l0
  have w := h.w
  have lf : (few os).length = min 3 os.length := by simp [few]
  have b : ∀ x ∈ few os, 1 ≤ x ∧ x ≤ 12 := fun x hx => by
    unfold few at hx
    obtain ⟨o, ho, rfl⟩ := List.mem_map.mp hx
    have m := List.mem_of_mem_take ho
    have h1 := h.h.o o m
    have h2 := h.b o m
    show 1 ≤ (if 12 < o then 1 + o / 60 else o) ∧ (if 12 < o then 1 + o / 60 else o) ≤ 12
    split <;> omega
  exact ⟨⟨by omega, by omega, fun x hx => by have := b x hx; omega⟩, by omega, fun x hx => (b x hx).2⟩
theorem st_few (h : Os wd os) : L9 (fr (.o d) (.v (.int wd)) (.v (iD os)) (.v (.int os.length)) s5 s6 s7 .u s9 .u .u s12 s13 s14 s15 s16 s17 .u .u .u .u .u .u sc) = .nx (fr (.o d) (.v (.int wd)) (.v (iD os)) (.v (.int os.length)) s5 s6 s7 (.v (iD (few os))) s9 .u .u s12 s13 s14 s15 s16 s17 .u .u .u .u .u .u sc) := by
  have l4 := h.l
  have ct := cut_3 (os.map PyData.int)
  have et : (os.map PyData.int).take 3 = (os.take 3).map PyData.int := by rw [List.map_take]
  rw [et] at ct
  have cf := compF_all (vs := [19]) (g := tgN 19) (e := (eIf (eOpT fGt (eVar 19) (eC (.int 12))) (eOp fAdd (eC (.int 1)) (eOp fDiv (eVar 19) (eC (.int 60)))) (eVar 19))) (ρ := (fr (.o d) (.v (.int wd)) (.v (iD os)) (.v (.int os.length)) s5 s6 s7 .u s9 .u .u s12 s13 s14 s15 s16 s17 .u .u .u .u .u .u sc)) PyData.int (fun o => PyData.int (if 12 < o then 1 + o / 60 else o)) (os.take 3) (fun o ho => by
    have dv : divOk 60 = true := divOk_s (by decide) (by decide)
    refine ⟨(fr (.o d) (.v (.int wd)) (.v (iD os)) (.v (.int os.length)) s5 s6 s7 .u s9 .u .u s12 s13 s14 s15 s16 s17 .u (.v (.int o)) .u .u .u .u sc), .v (.int (if 12 < o then 1 + o / 60 else o)), (fr (.o d) (.v (.int wd)) (.v (iD os)) (.v (.int os.length)) s5 s6 s7 .u s9 .u .u s12 s13 s14 s15 s16 s17 .u (.v (.int o)) .u .u .u .u sc), (fr (.o d) (.v (.int wd)) (.v (iD os)) (.v (.int os.length)) s5 s6 s7 .u s9 .u .u s12 s13 s14 s15 s16 s17 .u (.v (.int o)) .u .u .u .u sc), rfl, ?_, rfl, rfl⟩
    generalize iD os = O at *
    by_cases c : 12 < o <;> simp [c, dv])
  have ec : ((os.take 3).map fun o => PyData.int (if 12 < o then 1 + o / 60 else o)) = (few os).map PyData.int := by
    unfold few
    rw [List.map_map]
    rfl
  rw [ec] at cf
  have ln : lineOk ((os.take 3).map PyData.int).length = true := by
    rw [List.length_map, List.length_take]
    exact lineOk_s (by omega)
  unfold L9
  unfold iD at *
  generalize (os.take 3).map PyData.int = T at *
  generalize (few os).map PyData.int = F at *
  generalize os.map PyData.int = O at *
  simp [ct, ln]
  rw [cf]
  simp
structure Fs (fs : List Int) (P : Nat) : Prop where
  h : Ord fs
  l : fs.length ≤ 3
  b : ∀ x ∈ fs, x ≤ 12
  p1 : 1 ≤ P
  p3 : P ≤ 3
theorem st_place (hf : Ord fs ∧ fs.length ≤ 3 ∧ ∀ x ∈ fs, x ≤ 12) (hd : DS d) : ∃ (d' : D) (P : Nat), DS d' ∧ Fs fs P ∧ L10 (fr (.o d) (.v (.int wd)) (.v (iD os)) (.v (.int os.length)) s5 s6 s7 (.v (iD fs)) s9 .u .u s12 s13 s14 s15 s16 s17 .u .u .u .u .u .u sc) = .nx (fr (.o d') (.v (.int wd)) (.v (iD os)) (.v (.int os.length)) s5 (.v (.int P)) s7 (.v (iD fs)) s9 .u .u s12 s13 s14 s15 s16 s17 .u .u .u .u .u .u sc) := by
  have lf := len_iD fs
  by_cases c : (fs.length : Int) = 3
  · obtain ⟨r, d1, e1, h1, r0, r1⟩ := take_ok hd (b := 2) (by decide)
    refine ⟨d1, (1 + r).toNat, h1, ⟨hf.1, hf.2.1, hf.2.2, by omega, by omega⟩, ?_⟩
    have e : (((1 + r).toNat : Nat) : Int) = 1 + r := by omega
    rw [e]
    unfold L10
    unfold iD at *
    generalize os.map PyData.int = O at *
    generalize fs.map PyData.int = F at *
    generalize (fs.length : Int) = n at *
    simp [lf, c, e1]
  · obtain ⟨r, d1, e1, h1, r0, r1⟩ := take_ok hd (b := 3) (by decide)
    refine ⟨d1, (1 + r).toNat, h1, ⟨hf.1, hf.2.1, hf.2.2, by omega, by omega⟩, ?_⟩
    have e : (((1 + r).toNat : Nat) : Int) = 1 + r := by omega
    rw [e]
    unfold L10
    unfold iD at *
    generalize os.map PyData.int = O at *
    generalize fs.map PyData.int = F at *
    generalize (fs.length : Int) = n at *
    simp [lf, c, e1]
theorem st_two (h : Fs fs P) : L11 (fr (.o d) (.v (.int wd)) (.v (iD os)) (.v (.int os.length)) s5 (.v (.int P)) s7 (.v (iD fs)) s9 .u .u s12 s13 s14 s15 s16 s17 .u .u .u .u .u .u sc) = .nx (fr (.o d) (.v (.int wd)) (.v (iD os)) (.v (.int os.length)) s5 (.v (.int P)) s7 (.v (iD fs)) (.v (obD (best fs P))) .u .u s12 s13 s14 s15 s16 s17 .u .u .u .u .u .u sc) := by
  have l := h.l
  have p3 := h.p3
  have t := two_ok h.h (places := P) (by omega) (by omega)
  unfold L11 best
  generalize f3 fs (top fs) (lay P fs.length) (lay P fs.length) none = b at *
  generalize iD os = O at *
  generalize iD fs = F at *
  simp [t]
theorem st_least (h : Fs fs P) : L12 (fr (.o d) (.v (.int wd)) (.v (iD os)) (.v (.int os.length)) s5 (.v (.int P)) s7 (.v (iD fs)) (.v (obD (best fs P))) .u .u s12 s13 s14 s15 s16 s17 .u .u .u .u .u .u sc) = .nx (fr (.o d) (.v (.int wd)) (.v (iD os)) (.v (.int os.length)) s5 (.v (.int P)) s7 (.v (iD fs)) (.v (obD (best fs P))) .u .u s12 s13 s14 s15 s16 s17 .u .u .u .u .u .u sc) := by
  have l0 := h.h.l0
  have l := h.l
  have p1 := h.p1
  have p3 := h.p3
  have mx : mxl fs ≤ 60 := by
    have := h.b _ (mxl_mem (ne_len (xs := fs) (by omega)))
    omega
  have t := told2 (least_ok h.h (places := P) (by omega) (by omega) l mx)
  have lf := len_iD fs
  have st := sum_t fs
  have dv : divOk (P : Int) = true := divOk_s (by omega) (by omega)
  have eb : f3 fs (top fs) (lay P fs.length) (lay P fs.length) none = best fs P := rfl
  rw [eb] at t
  have al : fn__law_alike [obD (best fs P), obD (best fs P)] = .ret (.bool true) [] := by
    cases best fs P with
    | none => exact fr_none 7
    | some v => exact fr_int 7 v
  have ge := fun v => best_ge h.h p1 (by omega) (v := v)
  by_cases c : (fs.length : Int) ≤ P
  · obtain ⟨R, f⟩ := fw_ex h.h (places := (P : Int)) c
    obtain ⟨v, e, hv⟩ := best_one h.h (by omega) (by omega) f
    have q := fewest_ok h.h (places := (P : Int)) (by omega) (by omega) (by omega) f
    have g := ge v e
    rw [e] at t al ⊢
    unfold cdiv at g
    have n1 : ¬ v < (fs.sum + P - 1) / P := by omega
    have n2 : ¬ R < v := by omega
    unfold L12
    unfold iD obD at *
    generalize os.map PyData.int = O at *
    generalize fs.map PyData.int = F at *
    generalize fs.sum = s at *
    generalize (fs.length : Int) = n at *
    simp [t, al, fNotN, isNone, st, dv, n1, lf, c, q, n2]
  · cases e : best fs P with
    | none =>
      rw [e] at t al
      unfold L12
      unfold iD obD at *
      generalize os.map PyData.int = O at *
      generalize fs.map PyData.int = F at *
      generalize (fs.length : Int) = n at *
      simp [t, al, fNotN, isNone, lf, c]
    | some v =>
      have g := ge v e
      rw [e] at t al
      unfold cdiv at g
      have n1 : ¬ v < (fs.sum + P - 1) / P := by omega
      unfold L12
      unfold iD obD at *
      generalize os.map PyData.int = O at *
      generalize fs.map PyData.int = F at *
      generalize fs.sum = s at *
      generalize (fs.length : Int) = n at *
      simp [t, al, fNotN, isNone, st, dv, n1, lf, c]
theorem st_when (h : Fs fs P) : L13 (fr (.o d) (.v (.int wd)) (.v (iD os)) (.v (.int os.length)) s5 (.v (.int P)) s7 (.v (iD fs)) (.v (obD (best fs P))) .u .u s12 s13 s14 s15 s16 s17 .u .u .u .u .u .u sc) = .nx (fr (.o d) (.v (.int wd)) (.v (iD os)) (.v (.int os.length)) s5 (.v (.int P)) s7 (.v (iD fs)) (.v (obD (best fs P))) .u .u s12 s13 s14 s15 s16 s17 .u .u .u .u .u .u sc) := by
  have l := h.l
  have p1 := h.p1
  have p3 := h.p3
  have bn := best_none h.h p1 (by omega)
  have lf := len_iD fs
  have c1 := c_50
  have c2 := c_none
  have m : mulFits 2 (P : Int) = true := fits_l ⟨by omega, by omega⟩
  cases e : best fs P with
  | none =>
    have q : 2 * (P : Int) < fs.length := by have := bn.mp e; omega
    unfold L13
    unfold iD obD at *
    generalize os.map PyData.int = O at *
    generalize fs.map PyData.int = F at *
    generalize (fs.length : Int) = n at *
    simp [fIsN, fNotN, isNone, m, lf, q, c1, c2]
  | some v =>
    have q : ¬ 2 * (P : Int) < fs.length := fun z => by
      have := bn.mpr (by omega)
      rw [e] at this
      cases this
    unfold L13
    unfold iD obD at *
    generalize os.map PyData.int = O at *
    generalize fs.map PyData.int = F at *
    generalize (fs.length : Int) = n at *
    simp [fIsN, fNotN, isNone, m, lf, q, c1, c2]
end
end K10
end
section
set_option Elab.async false
set_option linter.all false
set_option maxRecDepth 100000
set_option maxHeartbeats 4000000
namespace K10
open PySem L2 Pd
section
variable {sc d : D} {wd : Int} {os fs : List Int} {s5 s6 s7 s8 s9 s10 s11 s12 s13 s14 s15 s16 s17 : Sl} {P : Nat}
theorem st_words : L14 (fr (.o d) (.v (.int wd)) (.v (iD os)) (.v (.int os.length)) s5 s6 s7 s8 s9 .u .u s12 s13 s14 s15 s16 s17 .u .u .u .u .u .u sc) = .nx (fr (.o d) (.v (.int wd)) (.v (iD os)) (.v (.int os.length)) s5 s6 s7 s8 s9 (.o (.list (List.replicate 7 (.str "range")))) .u s12 s13 s14 s15 s16 s17 .u .u .u .u .u .u sc) := by
  have t1 := told0x (fewest_bad (d := iD os) (places := 0) (by decide))
  have t2 := told0x (fewest_bad (d := iD os) (places := 13) (by decide))
  have t3 := told1x (told_bad (d := iD os) (places := 0) (by decide))
  have t4 := told1x (told_bad (d := iD os) (places := 13) (by decide))
  have t5 := told2x (least_range (d := .tuple [.int 1]) (places := 0) (by decide))
  have t6 := told2x (least_range (d := .tuple (List.replicate 5 (.int 1))) (places := 0) (by decide))
  have t7 := told2x (least_range (d := .tuple [.int 1]) (places := 5) (by decide))
  have m5 : fMul (.tuple [.int 1]) (.int 5) = some (.v (.tuple (List.replicate 5 (.int 1)))) := rep_ok (k := 5) (by decide)
  have l1 : lineOk 1 = true := lineOk_s (by decide)
  have l2 : lineOk 2 = true := lineOk_s (by decide)
  have l4 : lineOk 4 = true := lineOk_s (by decide)
  have l6 : lineOk 6 = true := lineOk_s (by decide)
  have l7 : lineOk 7 = true := lineOk_s (by decide)
  have er : List.replicate 7 (PyData.str "range") = [.str "range", .str "range", .str "range", .str "range", .str "range", .str "range", .str "range"] := rfl
  rw [er]
  unfold L14
  generalize iD os = O at *
  generalize List.replicate 5 (PyData.int 1) = S at *
  simp [compF, t1, t2, t3, t4, t5, t6, t7, m5, l1, l2, l4, l6, l7]
theorem st_much : L15 (fr (.o d) (.v (.int wd)) (.v (iD os)) (.v (.int os.length)) s5 s6 s7 s8 s9 (.o (.list (List.replicate 7 (.str "range")))) .u s12 s13 s14 s15 s16 s17 .u .u .u .u .u .u sc) = .nx (fr (.o d) (.v (.int wd)) (.v (iD os)) (.v (.int os.length)) s5 s6 s7 s8 s9 (.o (.list (List.replicate 7 (.str "range")))) .u s12 s13 s14 s15 s16 s17 .u .u .u .u .u .u sc) := by
  have t1 := told2m (least_much (os := List.replicate 4 1) (places := 2) (by decide) (by decide) (.inl (by decide)))
  have t2 := told2m (least_much (os := [61]) (places := 2) (by decide) (by decide) (.inr (by decide)))
  have e1 : iD (List.replicate 4 1) = .tuple (List.replicate 4 (.int 1)) := by simp [iD]
  have e2 : iD [61] = .tuple [.int 61] := rfl
  rw [e1] at t1
  rw [e2] at t2
  have m4 : fMul (.tuple [.int 1]) (.int 4) = some (.v (.tuple (List.replicate 4 (.int 1)))) := rep_ok (k := 4) (by decide)
  have l1 : lineOk 1 = true := lineOk_s (by decide)
  have l2 : lineOk 2 = true := lineOk_s (by decide)
  have l7 : lineOk 7 = true := lineOk_s (by decide)
  have mo7 : manyOk 7 = true := manyOk_s (by decide) (by decide)
  have mo2 : manyOk 2 = true := manyOk_s (by decide) (by decide)
  have n7 : fNe (.list (List.replicate 7 (.str "range"))) (.list [.str "range", .str "range", .str "range", .str "range", .str "range", .str "range", .str "range"]) = some false := by simp [List.replicate, fNe, fit, fitAll, PyData.eqv, PyData.eqvAll]
  have n2 : fNe (.list [.str "much", .str "much"]) (.list [.str "much", .str "much"]) = some false := by simp [fNe, fit, fitAll, PyData.eqv, PyData.eqvAll]
  unfold L15
  generalize iD os = O at *
  generalize List.replicate 4 (PyData.int 1) = S at *
  generalize List.replicate 7 (PyData.str "range") = R7 at *
  simp [compF, t1, t2, m4, l1, l2, l7, mo7, mo2, n7, n2]
theorem st_oddY : L16 (fr (.o d) (.v (.int wd)) (.v (iD os)) (.v (.int os.length)) s5 s6 s7 s8 s9 (.o (.list (List.replicate 7 (.str "range")))) s11 s12 s13 s14 s15 s16 s17 .u .u .u .u .u .u sc) = .nx (fr (.o d) (.v (.int wd)) (.v (iD os)) (.v (.int os.length)) s5 s6 s7 s8 s9 (.o (.list (List.replicate 7 (.str "range")))) (.o (.list oddY)) s12 s13 s14 s15 s16 s17 .u .u .u .u .u .u sc) := by
  have l1 : lineOk 1 = true := lineOk_s (by decide)
  have l2 : lineOk 2 = true := lineOk_s (by decide)
  have l3 : lineOk 3 = true := lineOk_s (by decide)
  have l9 : lineOk 9 = true := lineOk_s (by decide)
  unfold L16 oddY
  generalize iD os = O at *
  generalize List.replicate 7 (PyData.str "range") = R7 at *
  simp [l1, l2, l3, l9]
theorem st_noY : L17 (fr (.o d) (.v (.int wd)) (.v (iD os)) (.v (.int os.length)) s5 s6 s7 s8 s9 (.o (.list (List.replicate 7 (.str "range")))) (.o (.list oddY)) s12 s13 s14 s15 s16 s17 .u .u .u .u .u .u sc) = .nx (fr (.o d) (.v (.int wd)) (.v (iD os)) (.v (.int os.length)) s5 s6 s7 s8 s9 (.o (.list (List.replicate 7 (.str "range")))) (.v (.list oddY)) s12 s13 s14 s15 s16 s17 .u .u .u .u .u .u sc) := by
  have sf := says_ok false false
  have cf := compF_none (vs := [20]) (g := tgN 20) (c := (eNot (eB (eCall 2 fn__law_says (aCons (eCall 3 fn_is_layout (aCons (eTup (aCons (eC (.int 9)) (aCons (eC (.int 9)) (aNil)))) (aCons (eC (.int 4)) (aCons (eVar 20) (aNil))))) (aCons (eC (.bool false)) (aNil))))))) (e := eVar 20) (ρ := (fr (.o d) (.v (.int wd)) (.v (iD os)) (.v (.int os.length)) s5 s6 s7 s8 s9 (.o (.list (List.replicate 7 (.str "range")))) (.v (.list oddY)) s12 s13 s14 s15 s16 s17 .u .u .u .u .u .u sc)) oddY (fun x hx => by
    have o := oddY_no x hx
    unfold lay2 at o
    refine ⟨(fr (.o d) (.v (.int wd)) (.v (iD os)) (.v (.int os.length)) s5 s6 s7 s8 s9 (.o (.list (List.replicate 7 (.str "range")))) (.v (.list oddY)) s12 s13 s14 s15 s16 s17 .u .u (.v x) .u .u .u sc), (fr (.o d) (.v (.int wd)) (.v (iD os)) (.v (.int os.length)) s5 s6 s7 s8 s9 (.o (.list (List.replicate 7 (.str "range")))) (.v (.list oddY)) s12 s13 s14 s15 s16 s17 .u .u (.v x) .u .u .u sc), rfl, ?_, rfl⟩
    generalize oddY = Q at *
    generalize iD os = O at *
    generalize List.replicate 7 (PyData.str "range") = R7 at *
    simp [o, sf])
  have lo : lineOk oddY.length = true := lineOk_s (by decide)
  have y := yes_Y
  unfold lay2 at y
  have ne := ne_e
  unfold L17
  generalize oddY = Q at *
  generalize iD os = O at *
  generalize List.replicate 7 (PyData.str "range") = R7 at *
  simp [lo]
  rw [cf]
  simp [ne, y, fNotN]
theorem st_oddO : L18 (fr (.o d) (.v (.int wd)) (.v (iD os)) (.v (.int os.length)) s5 s6 s7 s8 s9 (.o (.list (List.replicate 7 (.str "range")))) s11 s12 s13 s14 s15 s16 s17 .u .u .u .u .u .u sc) = .nx (fr (.o d) (.v (.int wd)) (.v (iD os)) (.v (.int os.length)) s5 s6 s7 s8 s9 (.o (.list (List.replicate 7 (.str "range")))) (.o (.list oddO)) s12 s13 s14 s15 s16 s17 .u .u .u .u .u .u sc) := by
  have l0 : lineOk 0 = true := lineOk_s (by decide)
  have l1 : lineOk 1 = true := lineOk_s (by decide)
  have l9 : lineOk 9 = true := lineOk_s (by decide)
  have m6 : fMul (.tuple [.int 1]) (.int 6) = some (.v (.tuple (List.replicate 6 (.int 1)))) := rep_ok (k := 6) (by decide)
  unfold L18 oddO
  generalize iD os = O at *
  generalize List.replicate 7 (PyData.str "range") = R7 at *
  generalize List.replicate 6 (PyData.int 1) = R6 at *
  simp [l0, l1, l9, m6]
theorem st_ret : Good (L19 (fr (.o d) (.v (.int wd)) (.v (iD os)) (.v (.int os.length)) s5 s6 s7 s8 s9 (.o (.list (List.replicate 7 (.str "range")))) (.o (.list oddO)) s12 s13 s14 s15 s16 s17 .u .u .u .u .u .u sc)) := by
  have sf := says_ok false false
  have cf := compF_none (vs := [20]) (g := tgN 20) (c := (eNot (eB (eCall 2 fn__law_says (aCons (eCall 1 fn_are_orders (aCons (eVar 20) (aNil))) (aCons (eC (.bool false)) (aNil))))))) (e := eVar 20) (ρ := (fr (.o d) (.v (.int wd)) (.v (iD os)) (.v (.int os.length)) s5 s6 s7 s8 s9 (.o (.list (List.replicate 7 (.str "range")))) (.v (.list oddO)) s12 s13 s14 s15 s16 s17 .u .u .u .u .u .u sc)) oddO (fun x hx => by
    have o := oddO_no x hx
    refine ⟨(fr (.o d) (.v (.int wd)) (.v (iD os)) (.v (.int os.length)) s5 s6 s7 s8 s9 (.o (.list (List.replicate 7 (.str "range")))) (.v (.list oddO)) s12 s13 s14 s15 s16 s17 .u .u (.v x) .u .u .u sc), (fr (.o d) (.v (.int wd)) (.v (iD os)) (.v (.int os.length)) s5 s6 s7 s8 s9 (.o (.list (List.replicate 7 (.str "range")))) (.v (.list oddO)) s12 s13 s14 s15 s16 s17 .u .u (.v x) .u .u .u sc), rfl, ?_, rfl⟩
    generalize oddO = Q at *
    generalize iD os = O at *
    generalize List.replicate 7 (PyData.str "range") = R7 at *
    simp [o, sf])
  have lo : lineOk oddO.length = true := lineOk_s (by decide)
  have eq := eq_nil
  refine ⟨(fr (.o d) (.v (.int wd)) (.v (iD os)) (.v (.int os.length)) s5 s6 s7 s8 s9 (.o (.list (List.replicate 7 (.str "range")))) (.v (.list oddO)) s12 s13 s14 s15 s16 s17 .u .u .u .u .u .u sc), ?_⟩
  unfold L19
  generalize oddO = Q at *
  generalize iD os = O at *
  generalize List.replicate 7 (PyData.str "range") = R7 at *
  simp [lo]
  rw [cf]
  simp [eq]
end
theorem whole (ns : List Int) (h : ns.length ≤ 63) : Good (bd_law (fr .u .u .u .u .u .u .u .u .u .u .u .u .u .u .u .u .u .u .u .u .u .u .u (scrD (ns.map PyData.int)))) := by
  obtain ⟨d0, e0, h0⟩ := draws_ok h
  generalize hsc : scrD (ns.map PyData.int) = sc at *
  obtain ⟨d1, wd, h1, hw, t1⟩ := st_wide (sc := sc) h0
  obtain ⟨d2, os, h2, ho, t2⟩ := st_orders (sc := sc) h1 hw
  obtain ⟨s5, s6, s9, s12, s13, s17, t6⟩ := st_places (sc := sc) (d := d2) ho
  obtain ⟨d3, t6', t7', t13, t14, t15, h3, t7⟩ := st_turns (sc := sc) (d := d2) (s5 := s5) (s6 := s6) (s7 := .u) (s9 := s9) (s12 := s12) (s13 := s13) (s14 := .u) (s15 := .u) (s17 := s17) ho h2
  obtain ⟨t16, t8⟩ := st_dbl (sc := sc) (d := d3) (s5 := s5) (s6 := t6') (s7 := t7') (s9 := s9) (s12 := s12) (s13 := t13) (s14 := t14) (s15 := t15) (s16 := .u) (s17 := s17) ho
  have t9 := st_few (sc := sc) (d := d3) (s5 := s5) (s6 := t6') (s7 := t7') (s9 := s9) (s12 := s12) (s13 := t13) (s14 := t14) (s15 := t15) (s16 := t16) (s17 := s17) ho
  obtain ⟨d4, P, h4, hf, t10⟩ := st_place (sc := sc) (wd := wd) (os := os) (s5 := s5) (s6 := t6') (s7 := t7') (s9 := s9) (s12 := s12) (s13 := t13) (s14 := t14) (s15 := t15) (s16 := t16) (s17 := s17) (few_ord ho) h3
  have t0 : L0 (fr .u .u .u .u .u .u .u .u .u .u .u .u .u .u .u .u .u .u .u .u .u .u .u sc) = .nx (fr (.o d0) .u .u .u .u .u .u .u .u .u .u .u .u .u .u .u .u .u .u .u .u .u .u sc) := by
    subst hsc
    unfold L0
    simp [e0, scrD]
  exact good_seq t0 (good_seq t1 (good_seq t2 (good_seq st_many (good_seq (st_are ho) (good_seq st_bef (good_seq t6 (good_seq t7 (good_seq t8 (good_seq t9 (good_seq t10 (good_seq (st_two hf) (good_seq (st_least hf) (good_seq (st_when hf) (good_seq st_words (good_seq st_much (good_seq st_oddY (good_seq st_noY (good_seq st_oddO st_ret))))))))))))))))))
theorem plain_ : ∀ ns : List Int, ns.length ≤ 63 → fn_law [scrD (ns.map PyData.int)] = .ret (.bool true) [] := by
  intro ns h
  obtain ⟨ρ, e⟩ := whole ns h
  unfold fn_law toFn initE
  simp [inSl]
  rw [e]
  simp [outsOf, ioIx]
end K10
end
section
set_option Elab.async false
set_option linter.all false
set_option maxRecDepth 100000
set_option maxHeartbeats 4000000
namespace K10
open PySem L2 PyProof.Rows L2H Pd
/-- the plain law -/
abbrev Plain : Prop := ∀ ns : List Int, ns.length ≤ 63 → (∀ z ∈ ns, Builtin.Int.intBits z ≤ 1048576) → fn_law [scrD (ns.map PyData.int)] = .ret (.bool true) []
def ecOf (CPrintError COutOfRange CMalformed CNotThere CRefused CTooMuch : Addr) (n : String) : Addr := if n = "PrintError" then CPrintError else if n = "OutOfRange" then COutOfRange else if n = "Malformed" then CMalformed else if n = "NotThere" then CNotThere else if n = "Refused" then CRefused else if n = "TooMuch" then CTooMuch else 0
theorem all_mk (plain : Plain) {P : Program} {w : World} {K : PySem.W.Frag} {h : Heap} {mg : Str → Option Value} {fa f0 f1 f2 f3 f4 f5 f6 f7 f8 f9 f10 f11 f12 f13 f14 f15 f16 f17 f18 f19 f20 f21 f22 CPrintError COutOfRange CMalformed CNotThere CRefused CTooMuch : Addr} {od0 an0 od1 an1 od2 an2 od3 an3 od4 an4 od5 an5 od6 an6 od7 an7 od8 an8 od9 an9 od10 an10 od11 an11 od12 an12 od13 an13 od14 an14 od15 an15 od16 an16 od17 an17 od18 an18 od19 an19 od20 an20 od21 an21 od22 an22 : Option Addr} {sl0 sl1 sl2 sl3 sl4 sl5 sl6 sl7 sl8 sl9 sl10 sl11 sl12 sl13 sl14 sl15 sl16 sl17 sl18 sl19 sl20 sl21 sl22 : Array (Option Value)} {oc0 kV0 dc0 pm0 cd0 ct0 oc1 kV1 dc1 pm1 cd1 ct1 oc2 kV2 dc2 pm2 cd2 ct2 oc3 kV3 dc3 pm3 cd3 ct3 oc4 kV4 dc4 pm4 cd4 ct4 oc5 kV5 dc5 pm5 cd5 ct5 oc6 kV6 dc6 pm6 cd6 ct6 oc7 kV7 dc7 pm7 cd7 ct7 oc8 kV8 dc8 pm8 cd8 ct8 oc9 kV9 dc9 pm9 cd9 ct9 oc10 kV10 dc10 pm10 cd10 ct10 oc11 kV11 dc11 pm11 cd11 ct11 oc12 kV12 dc12 pm12 cd12 ct12 oc13 kV13 dc13 pm13 cd13 ct13 oc14 kV14 dc14 pm14 cd14 ct14 oc15 kV15 dc15 pm15 cd15 ct15 oc16 kV16 dc16 pm16 cd16 ct16 oc17 kV17 dc17 pm17 cd17 ct17 oc18 kV18 dc18 pm18 cd18 ct18 oc19 kV19 dc19 pm19 cd19 ct19 oc20 kV20 dc20 pm20 cd20 ct20 oc21 kV21 dc21 pm21 cd21 ct21 oc22 kV22 dc22 pm22 cd22 ct22 : Value} {tt_MOST_LABELS_oneplate tt_MOST_LABELS_twoplates tt_MOST_ORDER_oneplate tt_MOST_ORDER_twoplates tt_MOST_PLACES_oneplate tt_MOST_PLACES_twoplates : Tok} (X : K.In h) (G : h.Ns mainGlobals mg) (hfa : mg "law" = some (.ref fa))
    (a0 : PySem.W.nsIn K mainGlobals "_law_draws" = some (some (.ref f0)))
    (l0 : K.lookup f0 = some ⟨oc0, od0, .func (PySem.W.fnOf "_law_draws" "_law_draws" (defArgs s__law_draws) (defBody s__law_draws) (defScope s__law_draws) .none kV0 dc0 pm0 an0 cd0 ct0), sl0⟩)
    (c0 : PySem.W.codeIn K cd0 "_law_draws" = true)
    (k0 : PySem.W.keepIn K (.ref f0) = true)
    (a1 : PySem.W.nsIn K mainGlobals "_law_layouts" = some (some (.ref f1)))
    (l1 : K.lookup f1 = some ⟨oc1, od1, .func (PySem.W.fnOf "_law_layouts" "_law_layouts" (defArgs s__law_layouts) (defBody s__law_layouts) (defScope s__law_layouts) .none kV1 dc1 pm1 an1 cd1 ct1), sl1⟩)
    (c1 : PySem.W.codeIn K cd1 "_law_layouts" = true)
    (k1 : PySem.W.keepIn K (.ref f1) = true)
    (a2 : PySem.W.nsIn K mainGlobals "_law_two" = some (some (.ref f2)))
    (l2 : K.lookup f2 = some ⟨oc2, od2, .func (PySem.W.fnOf "_law_two" "_law_two" (defArgs s__law_two) (defBody s__law_two) (defScope s__law_two) .none kV2 dc2 pm2 an2 cd2 ct2), sl2⟩)
    (c2 : PySem.W.codeIn K cd2 "_law_two" = true)
    (k2 : PySem.W.keepIn K (.ref f2) = true)
    (a3 : PySem.W.nsIn K mainGlobals "_law_take" = some (some (.ref f3)))
    (l3 : K.lookup f3 = some ⟨oc3, od3, .func (PySem.W.fnOf "_law_take" "_law_take" (defArgs s__law_take) (defBody s__law_take) (defScope s__law_take) .none kV3 dc3 pm3 an3 cd3 ct3), sl3⟩)
    (c3 : PySem.W.codeIn K cd3 "_law_take" = true)
    (k3 : PySem.W.keepIn K (.ref f3) = true)
    (a4 : PySem.W.nsIn K mainGlobals "_law_says" = some (some (.ref f4)))
    (l4 : K.lookup f4 = some ⟨oc4, od4, .func (PySem.W.fnOf "_law_says" "_law_says" (defArgs s__law_says) (defBody s__law_says) (defScope s__law_says) .none kV4 dc4 pm4 an4 cd4 ct4), sl4⟩)
    (c4 : PySem.W.codeIn K cd4 "_law_says" = true)
    (k4 : PySem.W.keepIn K (.ref f4) = true)
    (a5 : PySem.W.nsIn K mainGlobals "_law_runs" = some (some (.ref f5)))
    (l5 : K.lookup f5 = some ⟨oc5, od5, .func (PySem.W.fnOf "_law_runs" "_law_runs" (defArgs s__law_runs) (defBody s__law_runs) (defScope s__law_runs) .none kV5 dc5 pm5 an5 cd5 ct5), sl5⟩)
    (c5 : PySem.W.codeIn K cd5 "_law_runs" = true)
    (k5 : PySem.W.keepIn K (.ref f5) = true)
    (a6 : PySem.W.nsIn K mainGlobals "is_number" = some (some (.ref f6)))
    (l6 : K.lookup f6 = some ⟨oc6, od6, .func (PySem.W.fnOf "is_number" "is_number" (defArgs s_is_number) (defBody s_is_number) (defScope s_is_number) .none kV6 dc6 pm6 an6 cd6 ct6), sl6⟩)
    (c6 : PySem.W.codeIn K cd6 "is_number" = true)
    (k6 : PySem.W.keepIn K (.ref f6) = true)
    (a7 : PySem.W.nsIn K mainGlobals "are_orders" = some (some (.ref f7)))
    (l7 : K.lookup f7 = some ⟨oc7, od7, .func (PySem.W.fnOf "are_orders" "are_orders" (defArgs s_are_orders) (defBody s_are_orders) (defScope s_are_orders) .none kV7 dc7 pm7 an7 cd7 ct7), sl7⟩)
    (c7 : PySem.W.codeIn K cd7 "are_orders" = true)
    (k7 : PySem.W.keepIn K (.ref f7) = true)
    (a8 : PySem.W.nsIn K mainGlobals "_law_alike" = some (some (.ref f8)))
    (l8 : K.lookup f8 = some ⟨oc8, od8, .func (PySem.W.fnOf "_law_alike" "_law_alike" (defArgs s__law_alike) (defBody s__law_alike) (defScope s__law_alike) .none kV8 dc8 pm8 an8 cd8 ct8), sl8⟩)
    (c8 : PySem.W.codeIn K cd8 "_law_alike" = true)
    (k8 : PySem.W.keepIn K (.ref f8) = true)
    (a9 : PySem.W.nsIn K mainGlobals "check_places" = some (some (.ref f9)))
    (l9 : K.lookup f9 = some ⟨oc9, od9, .func (PySem.W.fnOf "check_places" "check_places" (defArgs s_check_places) (defBody s_check_places) (defScope s_check_places) .none kV9 dc9 pm9 an9 cd9 ct9), sl9⟩)
    (c9 : PySem.W.codeIn K cd9 "check_places" = true)
    (k9 : PySem.W.keepIn K (.ref f9) = true)
    (a10 : PySem.W.nsIn K mainGlobals "needed" = some (some (.ref f10)))
    (l10 : K.lookup f10 = some ⟨oc10, od10, .func (PySem.W.fnOf "needed" "needed" (defArgs s_needed) (defBody s_needed) (defScope s_needed) .none kV10 dc10 pm10 an10 cd10 ct10), sl10⟩)
    (c10 : PySem.W.codeIn K cd10 "needed" = true)
    (k10 : PySem.W.keepIn K (.ref f10) = true)
    (a11 : PySem.W.nsIn K mainGlobals "fewest_runs" = some (some (.ref f11)))
    (l11 : K.lookup f11 = some ⟨oc11, od11, .func (PySem.W.fnOf "fewest_runs" "fewest_runs" (defArgs s_fewest_runs) (defBody s_fewest_runs) (defScope s_fewest_runs) .none kV11 dc11 pm11 an11 cd11 ct11), sl11⟩)
    (c11 : PySem.W.codeIn K cd11 "fewest_runs" = true)
    (k11 : PySem.W.keepIn K (.ref f11) = true)
    (a12 : PySem.W.nsIn K mainGlobals "told_layout" = some (some (.ref f12)))
    (l12 : K.lookup f12 = some ⟨oc12, od12, .func (PySem.W.fnOf "told_layout" "told_layout" (defArgs s_told_layout) (defBody s_told_layout) (defScope s_told_layout) .none kV12 dc12 pm12 an12 cd12 ct12), sl12⟩)
    (c12 : PySem.W.codeIn K cd12 "told_layout" = true)
    (k12 : PySem.W.keepIn K (.ref f12) = true)
    (a13 : PySem.W.nsIn K mainGlobals "all_layouts" = some (some (.ref f13)))
    (l13 : K.lookup f13 = some ⟨oc13, od13, .func (PySem.W.fnOf "all_layouts" "all_layouts" (defArgs s_all_layouts) (defBody s_all_layouts) (defScope s_all_layouts) .none kV13 dc13 pm13 an13 cd13 ct13), sl13⟩)
    (c13 : PySem.W.codeIn K cd13 "all_layouts" = true)
    (k13 : PySem.W.keepIn K (.ref f13) = true)
    (a14 : PySem.W.nsIn K mainGlobals "second_runs" = some (some (.ref f14)))
    (l14 : K.lookup f14 = some ⟨oc14, od14, .func (PySem.W.fnOf "second_runs" "second_runs" (defArgs s_second_runs) (defBody s_second_runs) (defScope s_second_runs) .none kV14 dc14 pm14 an14 cd14 ct14), sl14⟩)
    (c14 : PySem.W.codeIn K cd14 "second_runs" = true)
    (k14 : PySem.W.keepIn K (.ref f14) = true)
    (a15 : PySem.W.nsIn K mainGlobals "least_sum" = some (some (.ref f15)))
    (l15 : K.lookup f15 = some ⟨oc15, od15, .func (PySem.W.fnOf "least_sum" "least_sum" (defArgs s_least_sum) (defBody s_least_sum) (defScope s_least_sum) .none kV15 dc15 pm15 an15 cd15 ct15), sl15⟩)
    (c15 : PySem.W.codeIn K cd15 "least_sum" = true)
    (k15 : PySem.W.keepIn K (.ref f15) = true)
    (a16 : PySem.W.nsIn K mainGlobals "_law_word" = some (some (.ref f16)))
    (l16 : K.lookup f16 = some ⟨oc16, od16, .func (PySem.W.fnOf "_law_word" "_law_word" (defArgs s__law_word) (defBody s__law_word) (defScope s__law_word) .none kV16 dc16 pm16 an16 cd16 ct16), sl16⟩)
    (c16 : PySem.W.codeIn K cd16 "_law_word" = true)
    (k16 : PySem.W.keepIn K (.ref f16) = true)
    (a17 : PySem.W.nsIn K mainGlobals "_law_told" = some (some (.ref f17)))
    (l17 : K.lookup f17 = some ⟨oc17, od17, .func (PySem.W.fnOf "_law_told" "_law_told" (defArgs s__law_told) (defBody s__law_told) (defScope s__law_told) .none kV17 dc17 pm17 an17 cd17 ct17), sl17⟩)
    (c17 : PySem.W.codeIn K cd17 "_law_told" = true)
    (k17 : PySem.W.keepIn K (.ref f17) = true)
    (a18 : PySem.W.nsIn K mainGlobals "is_layout" = some (some (.ref f18)))
    (l18 : K.lookup f18 = some ⟨oc18, od18, .func (PySem.W.fnOf "is_layout" "is_layout" (defArgs s_is_layout) (defBody s_is_layout) (defScope s_is_layout) .none kV18 dc18 pm18 an18 cd18 ct18), sl18⟩)
    (c18 : PySem.W.codeIn K cd18 "is_layout" = true)
    (k18 : PySem.W.keepIn K (.ref f18) = true)
    (a19 : PySem.W.nsIn K mainGlobals "_law_given" = some (some (.ref f19)))
    (l19 : K.lookup f19 = some ⟨oc19, od19, .func (PySem.W.fnOf "_law_given" "_law_given" (defArgs s__law_given) (defBody s__law_given) (defScope s__law_given) .none kV19 dc19 pm19 an19 cd19 ct19), sl19⟩)
    (c19 : PySem.W.codeIn K cd19 "_law_given" = true)
    (k19 : PySem.W.keepIn K (.ref f19) = true)
    (a20 : PySem.W.nsIn K mainGlobals "runs_of" = some (some (.ref f20)))
    (l20 : K.lookup f20 = some ⟨oc20, od20, .func (PySem.W.fnOf "runs_of" "runs_of" (defArgs s_runs_of) (defBody s_runs_of) (defScope s_runs_of) .none kV20 dc20 pm20 an20 cd20 ct20), sl20⟩)
    (c20 : PySem.W.codeIn K cd20 "runs_of" = true)
    (k20 : PySem.W.keepIn K (.ref f20) = true)
    (a21 : PySem.W.nsIn K mainGlobals "waste_of" = some (some (.ref f21)))
    (l21 : K.lookup f21 = some ⟨oc21, od21, .func (PySem.W.fnOf "waste_of" "waste_of" (defArgs s_waste_of) (defBody s_waste_of) (defScope s_waste_of) .none kV21 dc21 pm21 an21 cd21 ct21), sl21⟩)
    (c21 : PySem.W.codeIn K cd21 "waste_of" = true)
    (k21 : PySem.W.keepIn K (.ref f21) = true)
    (a22 : PySem.W.nsIn K mainGlobals "law" = some (some (.ref f22)))
    (l22 : K.lookup f22 = some ⟨oc22, od22, .func (PySem.W.fnOf "law" "law" (defArgs s_law) (defBody s_law) (defScope s_law) .none kV22 dc22 pm22 an22 cd22 ct22), sl22⟩)
    (c22 : PySem.W.codeIn K cd22 "law" = true)
    (k22 : PySem.W.keepIn K (.ref f22) = true)
    (aCPrintError : PySem.W.nsIn K mainGlobals "PrintError" = some (some (.ref CPrintError)))
    (kCPrintError : PySem.W.keepIn K (.ref CPrintError) = true)
    (xCPrintError : PySem.W.excIn K CPrintError [.type "ValueError", .type "Exception", .type "BaseException", .type "object"] "ValueError.__new__" = true)
    (sCPrintError : PySem.W.subIn K (.ref CPrintError) (.type "BaseException") = some true)
    (tCPrintError : PySem.W.typeIn K (.ref CPrintError) = some (.type "type"))
    (hdPrintError : PySem.W.hasDictIn K CPrintError = true)
    (aCOutOfRange : PySem.W.nsIn K mainGlobals "OutOfRange" = some (some (.ref COutOfRange)))
    (kCOutOfRange : PySem.W.keepIn K (.ref COutOfRange) = true)
    (xCOutOfRange : PySem.W.excIn K COutOfRange [.type "ValueError", .type "Exception", .type "BaseException", .type "object"] "ValueError.__new__" = true)
    (sCOutOfRange : PySem.W.subIn K (.ref COutOfRange) (.type "BaseException") = some true)
    (tCOutOfRange : PySem.W.typeIn K (.ref COutOfRange) = some (.type "type"))
    (hdOutOfRange : PySem.W.hasDictIn K COutOfRange = true)
    (aCMalformed : PySem.W.nsIn K mainGlobals "Malformed" = some (some (.ref CMalformed)))
    (kCMalformed : PySem.W.keepIn K (.ref CMalformed) = true)
    (xCMalformed : PySem.W.excIn K CMalformed [.type "ValueError", .type "Exception", .type "BaseException", .type "object"] "ValueError.__new__" = true)
    (sCMalformed : PySem.W.subIn K (.ref CMalformed) (.type "BaseException") = some true)
    (tCMalformed : PySem.W.typeIn K (.ref CMalformed) = some (.type "type"))
    (hdMalformed : PySem.W.hasDictIn K CMalformed = true)
    (aCNotThere : PySem.W.nsIn K mainGlobals "NotThere" = some (some (.ref CNotThere)))
    (kCNotThere : PySem.W.keepIn K (.ref CNotThere) = true)
    (xCNotThere : PySem.W.excIn K CNotThere [.type "ValueError", .type "Exception", .type "BaseException", .type "object"] "ValueError.__new__" = true)
    (sCNotThere : PySem.W.subIn K (.ref CNotThere) (.type "BaseException") = some true)
    (tCNotThere : PySem.W.typeIn K (.ref CNotThere) = some (.type "type"))
    (hdNotThere : PySem.W.hasDictIn K CNotThere = true)
    (aCRefused : PySem.W.nsIn K mainGlobals "Refused" = some (some (.ref CRefused)))
    (kCRefused : PySem.W.keepIn K (.ref CRefused) = true)
    (xCRefused : PySem.W.excIn K CRefused [.type "ValueError", .type "Exception", .type "BaseException", .type "object"] "ValueError.__new__" = true)
    (sCRefused : PySem.W.subIn K (.ref CRefused) (.type "BaseException") = some true)
    (tCRefused : PySem.W.typeIn K (.ref CRefused) = some (.type "type"))
    (hdRefused : PySem.W.hasDictIn K CRefused = true)
    (aCTooMuch : PySem.W.nsIn K mainGlobals "TooMuch" = some (some (.ref CTooMuch)))
    (kCTooMuch : PySem.W.keepIn K (.ref CTooMuch) = true)
    (xCTooMuch : PySem.W.excIn K CTooMuch [.type "ValueError", .type "Exception", .type "BaseException", .type "object"] "ValueError.__new__" = true)
    (sCTooMuch : PySem.W.subIn K (.ref CTooMuch) (.type "BaseException") = some true)
    (tCTooMuch : PySem.W.typeIn K (.ref CTooMuch) = some (.type "type"))
    (hdTooMuch : PySem.W.hasDictIn K CTooMuch = true)
    (gaOutOfRange : PySem.W.findIn K (.ref COutOfRange) "__getattribute__" = some (some (.builtin "BaseException.__getattribute__")))
    (ggOutOfRange : PySem.W.findIn K (.ref COutOfRange) "__getattr__" = some none)
    (clOutOfRange : PySem.W.findIn K (.ref COutOfRange) "__class__" = some (some (.builtin "object.__class__")))
    (mrOutOfRange : PySem.W.mroIn K COutOfRange (.type "object") = some true)
    (suOutOfRange_Malformed : PySem.W.subIn K (.ref COutOfRange) (.ref CMalformed) = some false)
    (suOutOfRange_NotThere : PySem.W.subIn K (.ref COutOfRange) (.ref CNotThere) = some false)
    (suOutOfRange_OutOfRange : PySem.W.subIn K (.ref COutOfRange) (.ref COutOfRange) = some true)
    (suOutOfRange_PrintError : PySem.W.subIn K (.ref COutOfRange) (.ref CPrintError) = some true)
    (suOutOfRange_Refused : PySem.W.subIn K (.ref COutOfRange) (.ref CRefused) = some false)
    (suOutOfRange_TooMuch : PySem.W.subIn K (.ref COutOfRange) (.ref CTooMuch) = some false)
    (gaTooMuch : PySem.W.findIn K (.ref CTooMuch) "__getattribute__" = some (some (.builtin "BaseException.__getattribute__")))
    (ggTooMuch : PySem.W.findIn K (.ref CTooMuch) "__getattr__" = some none)
    (clTooMuch : PySem.W.findIn K (.ref CTooMuch) "__class__" = some (some (.builtin "object.__class__")))
    (mrTooMuch : PySem.W.mroIn K CTooMuch (.type "object") = some true)
    (suTooMuch_Malformed : PySem.W.subIn K (.ref CTooMuch) (.ref CMalformed) = some false)
    (suTooMuch_NotThere : PySem.W.subIn K (.ref CTooMuch) (.ref CNotThere) = some false)
    (suTooMuch_OutOfRange : PySem.W.subIn K (.ref CTooMuch) (.ref COutOfRange) = some false)
    (suTooMuch_PrintError : PySem.W.subIn K (.ref CTooMuch) (.ref CPrintError) = some true)
    (suTooMuch_Refused : PySem.W.subIn K (.ref CTooMuch) (.ref CRefused) = some false)
    (suTooMuch_TooMuch : PySem.W.subIn K (.ref CTooMuch) (.ref CTooMuch) = some true)
    (spG : PySem.W.specialIn K (.builtin "object.__class__") "__get__" = some (some (.builtin "getset_descriptor.__get__")))
    (tkG : PySem.W.takesIn K (.builtin "object.__class__") = some true)
    (z_abs : PySem.W.nsIn K mainGlobals "abs" = some none)
    (z_all : PySem.W.nsIn K mainGlobals "all" = some none)
    (z_bool : PySem.W.nsIn K mainGlobals "bool" = some none)
    (z_int : PySem.W.nsIn K mainGlobals "int" = some none)
    (z_isinstance : PySem.W.nsIn K mainGlobals "isinstance" = some none)
    (z_len : PySem.W.nsIn K mainGlobals "len" = some none)
    (z_list : PySem.W.nsIn K mainGlobals "list" = some none)
    (z_max : PySem.W.nsIn K mainGlobals "max" = some none)
    (z_min : PySem.W.nsIn K mainGlobals "min" = some none)
    (z_range : PySem.W.nsIn K mainGlobals "range" = some none)
    (z_reversed : PySem.W.nsIn K mainGlobals "reversed" = some none)
    (z_sorted : PySem.W.nsIn K mainGlobals "sorted" = some none)
    (z_str : PySem.W.nsIn K mainGlobals "str" = some none)
    (z_sum : PySem.W.nsIn K mainGlobals "sum" = some none)
    (z_tuple : PySem.W.nsIn K mainGlobals "tuple" = some none)
    (z_zip : PySem.W.nsIn K mainGlobals "zip" = some none)
    (v_MOST_LABELS_oneplate : PySem.W.nsIn K mainGlobals "MOST_LABELS_oneplate" = some (some (.int (5) tt_MOST_LABELS_oneplate)))
    (v_MOST_LABELS_twoplates : PySem.W.nsIn K mainGlobals "MOST_LABELS_twoplates" = some (some (.int (3) tt_MOST_LABELS_twoplates)))
    (v_MOST_ORDER_oneplate : PySem.W.nsIn K mainGlobals "MOST_ORDER_oneplate" = some (some (.int (500) tt_MOST_ORDER_oneplate)))
    (v_MOST_ORDER_twoplates : PySem.W.nsIn K mainGlobals "MOST_ORDER_twoplates" = some (some (.int (60) tt_MOST_ORDER_twoplates)))
    (v_MOST_PLACES_oneplate : PySem.W.nsIn K mainGlobals "MOST_PLACES_oneplate" = some (some (.int (12) tt_MOST_PLACES_oneplate)))
    (v_MOST_PLACES_twoplates : PySem.W.nsIn K mainGlobals "MOST_PLACES_twoplates" = some (some (.int (4) tt_MOST_PLACES_twoplates)))
    (tabs : ∀ nm ∈ (["are_orders", "is_layout"] : List Str), ∀ (f : Addr) (oc : Value) (od : Option Addr) (fd : FuncData) (sl : Array (Option Value)), mg nm = some (.ref f) → K.lookup f = some ⟨oc, od, .func fd, sl⟩ → TabAt K h fd.code)
    : LawAtT P w K (L2N.CX P w) 10 63 "script" mg fa h := by
  have ez := hfa.symm.trans (PySem.W.mg_of X G a22)
  cases ez
  let ad : Nat → Addr := fun j => match j with
    | 0 => f0
    | 1 => f1
    | 2 => f2
    | 3 => f3
    | 4 => f4
    | 5 => f5
    | 6 => f6
    | 7 => f7
    | 8 => f8
    | 9 => f9
    | 10 => f10
    | 11 => f11
    | 12 => f12
    | 13 => f13
    | 14 => f14
    | 15 => f15
    | 16 => f16
    | 17 => f17
    | 18 => f18
    | 19 => f19
    | 20 => f20
    | 21 => f21
    | 22 => fa
    | _ => 0
  let fd : Nat → FuncData := fun j => match j with
    | 0 => PySem.W.fnOf "_law_draws" "_law_draws" (defArgs s__law_draws) (defBody s__law_draws) (defScope s__law_draws) .none kV0 dc0 pm0 an0 cd0 ct0
    | 1 => PySem.W.fnOf "_law_layouts" "_law_layouts" (defArgs s__law_layouts) (defBody s__law_layouts) (defScope s__law_layouts) .none kV1 dc1 pm1 an1 cd1 ct1
    | 2 => PySem.W.fnOf "_law_two" "_law_two" (defArgs s__law_two) (defBody s__law_two) (defScope s__law_two) .none kV2 dc2 pm2 an2 cd2 ct2
    | 3 => PySem.W.fnOf "_law_take" "_law_take" (defArgs s__law_take) (defBody s__law_take) (defScope s__law_take) .none kV3 dc3 pm3 an3 cd3 ct3
    | 4 => PySem.W.fnOf "_law_says" "_law_says" (defArgs s__law_says) (defBody s__law_says) (defScope s__law_says) .none kV4 dc4 pm4 an4 cd4 ct4
    | 5 => PySem.W.fnOf "_law_runs" "_law_runs" (defArgs s__law_runs) (defBody s__law_runs) (defScope s__law_runs) .none kV5 dc5 pm5 an5 cd5 ct5
    | 6 => PySem.W.fnOf "is_number" "is_number" (defArgs s_is_number) (defBody s_is_number) (defScope s_is_number) .none kV6 dc6 pm6 an6 cd6 ct6
    | 7 => PySem.W.fnOf "are_orders" "are_orders" (defArgs s_are_orders) (defBody s_are_orders) (defScope s_are_orders) .none kV7 dc7 pm7 an7 cd7 ct7
    | 8 => PySem.W.fnOf "_law_alike" "_law_alike" (defArgs s__law_alike) (defBody s__law_alike) (defScope s__law_alike) .none kV8 dc8 pm8 an8 cd8 ct8
    | 9 => PySem.W.fnOf "check_places" "check_places" (defArgs s_check_places) (defBody s_check_places) (defScope s_check_places) .none kV9 dc9 pm9 an9 cd9 ct9
    | 10 => PySem.W.fnOf "needed" "needed" (defArgs s_needed) (defBody s_needed) (defScope s_needed) .none kV10 dc10 pm10 an10 cd10 ct10
    | 11 => PySem.W.fnOf "fewest_runs" "fewest_runs" (defArgs s_fewest_runs) (defBody s_fewest_runs) (defScope s_fewest_runs) .none kV11 dc11 pm11 an11 cd11 ct11
    | 12 => PySem.W.fnOf "told_layout" "told_layout" (defArgs s_told_layout) (defBody s_told_layout) (defScope s_told_layout) .none kV12 dc12 pm12 an12 cd12 ct12
    | 13 => PySem.W.fnOf "all_layouts" "all_layouts" (defArgs s_all_layouts) (defBody s_all_layouts) (defScope s_all_layouts) .none kV13 dc13 pm13 an13 cd13 ct13
    | 14 => PySem.W.fnOf "second_runs" "second_runs" (defArgs s_second_runs) (defBody s_second_runs) (defScope s_second_runs) .none kV14 dc14 pm14 an14 cd14 ct14
    | 15 => PySem.W.fnOf "least_sum" "least_sum" (defArgs s_least_sum) (defBody s_least_sum) (defScope s_least_sum) .none kV15 dc15 pm15 an15 cd15 ct15
    | 16 => PySem.W.fnOf "_law_word" "_law_word" (defArgs s__law_word) (defBody s__law_word) (defScope s__law_word) .none kV16 dc16 pm16 an16 cd16 ct16
    | 17 => PySem.W.fnOf "_law_told" "_law_told" (defArgs s__law_told) (defBody s__law_told) (defScope s__law_told) .none kV17 dc17 pm17 an17 cd17 ct17
    | 18 => PySem.W.fnOf "is_layout" "is_layout" (defArgs s_is_layout) (defBody s_is_layout) (defScope s_is_layout) .none kV18 dc18 pm18 an18 cd18 ct18
    | 19 => PySem.W.fnOf "_law_given" "_law_given" (defArgs s__law_given) (defBody s__law_given) (defScope s__law_given) .none kV19 dc19 pm19 an19 cd19 ct19
    | 20 => PySem.W.fnOf "runs_of" "runs_of" (defArgs s_runs_of) (defBody s_runs_of) (defScope s_runs_of) .none kV20 dc20 pm20 an20 cd20 ct20
    | 21 => PySem.W.fnOf "waste_of" "waste_of" (defArgs s_waste_of) (defBody s_waste_of) (defScope s_waste_of) .none kV21 dc21 pm21 an21 cd21 ct21
    | 22 => PySem.W.fnOf "law" "law" (defArgs s_law) (defBody s_law) (defScope s_law) .none kV22 dc22 pm22 an22 cd22 ct22
    | _ => PySem.W.fnOf "" "" (defArgs s_law) (defBody s_law) (defScope s_law) .none .none .none .none none .none .none
  have F0 : Fun K "_law_draws" "_law_draws" s__law_draws (ad 0) (fd 0) := fun_mk (st := s__law_draws) l0 c0 k0
  have B0 : Binds K (fd 0) ["script"] [] := F0.binds (ps := ["script"]) fun _ _ _ _ _ _ us hl => match us, hl with | [_], _ => rfl
  have F1 : Fun K "_law_layouts" "_law_layouts" s__law_layouts (ad 1) (fd 1) := fun_mk (st := s__law_layouts) l1 c1 k1
  have B1 : Binds K (fd 1) ["many", "places"] [] := F1.binds (ps := ["many", "places"]) fun _ _ _ _ _ _ us hl => match us, hl with | [_, _], _ => rfl
  have F2 : Fun K "_law_two" "_law_two" s__law_two (ad 2) (fd 2) := fun_mk (st := s__law_two) l2 c2 k2
  have B2 : Binds K (fd 2) ["orders", "places"] [] := F2.binds (ps := ["orders", "places"]) fun _ _ _ _ _ _ us hl => match us, hl with | [_, _], _ => rfl
  have F3 : Fun K "_law_take" "_law_take" s__law_take (ad 3) (fd 3) := fun_mk (st := s__law_take) l3 c3 k3
  have B3 : Binds K (fd 3) ["draws", "bound"] [] := F3.binds (ps := ["draws", "bound"]) fun _ _ _ _ _ _ us hl => match us, hl with | [_, _], _ => rfl
  have F4 : Fun K "_law_says" "_law_says" s__law_says (ad 4) (fd 4) := fun_mk (st := s__law_says) l4 c4 k4
  have B4 : Binds K (fd 4) ["told", "due"] [] := F4.binds (ps := ["told", "due"]) fun _ _ _ _ _ _ us hl => match us, hl with | [_, _], _ => rfl
  have F5 : Fun K "_law_runs" "_law_runs" s__law_runs (ad 5) (fd 5) := fun_mk (st := s__law_runs) l5 c5 k5
  have B5 : Binds K (fd 5) ["orders", "layout"] [] := F5.binds (ps := ["orders", "layout"]) fun _ _ _ _ _ _ us hl => match us, hl with | [_, _], _ => rfl
  have F6 : Fun K "is_number" "is_number" s_is_number (ad 6) (fd 6) := fun_mk (st := s_is_number) l6 c6 k6
  have B6 : Binds K (fd 6) ["value", "least", "most"] [] := F6.binds (ps := ["value", "least", "most"]) fun _ _ _ _ _ _ us hl => match us, hl with | [_, _, _], _ => rfl
  have F7 : Fun K "are_orders" "are_orders" s_are_orders (ad 7) (fd 7) := fun_mk (st := s_are_orders) l7 c7 k7
  have B7 : Binds K (fd 7) ["value"] [] := F7.binds (ps := ["value"]) fun _ _ _ _ _ _ us hl => match us, hl with | [_], _ => rfl
  have F8 : Fun K "_law_alike" "_law_alike" s__law_alike (ad 8) (fd 8) := fun_mk (st := s__law_alike) l8 c8 k8
  have B8 : Binds K (fd 8) ["found", "due"] [] := F8.binds (ps := ["found", "due"]) fun _ _ _ _ _ _ us hl => match us, hl with | [_, _], _ => rfl
  have F9 : Fun K "check_places" "check_places" s_check_places (ad 9) (fd 9) := fun_mk (st := s_check_places) l9 c9 k9
  have B9 : Binds K (fd 9) ["places"] [] := F9.binds (ps := ["places"]) fun _ _ _ _ _ _ us hl => match us, hl with | [_], _ => rfl
  have F10 : Fun K "needed" "needed" s_needed (ad 10) (fd 10) := fun_mk (st := s_needed) l10 c10 k10
  have B10 : Binds K (fd 10) ["orders", "runs"] [] := F10.binds (ps := ["orders", "runs"]) fun _ _ _ _ _ _ us hl => match us, hl with | [_, _], _ => rfl
  have F11 : Fun K "fewest_runs" "fewest_runs" s_fewest_runs (ad 11) (fd 11) := fun_mk (st := s_fewest_runs) l11 c11 k11
  have B11 : Binds K (fd 11) ["orders", "places"] [] := F11.binds (ps := ["orders", "places"]) fun _ _ _ _ _ _ us hl => match us, hl with | [_, _], _ => rfl
  have F12 : Fun K "told_layout" "told_layout" s_told_layout (ad 12) (fd 12) := fun_mk (st := s_told_layout) l12 c12 k12
  have B12 : Binds K (fd 12) ["orders", "places"] [] := F12.binds (ps := ["orders", "places"]) fun _ _ _ _ _ _ us hl => match us, hl with | [_, _], _ => rfl
  have F13 : Fun K "all_layouts" "all_layouts" s_all_layouts (ad 13) (fd 13) := fun_mk (st := s_all_layouts) l13 c13 k13
  have B13 : Binds K (fd 13) ["many", "places"] [] := F13.binds (ps := ["many", "places"]) fun _ _ _ _ _ _ us hl => match us, hl with | [_, _], _ => rfl
  have F14 : Fun K "second_runs" "second_runs" s_second_runs (ad 14) (fd 14) := fun_mk (st := s_second_runs) l14 c14 k14
  have B14 : Binds K (fd 14) ["orders", "first", "runs", "second"] [] := F14.binds (ps := ["orders", "first", "runs", "second"]) fun _ _ _ _ _ _ us hl => match us, hl with | [_, _, _, _], _ => rfl
  have F15 : Fun K "least_sum" "least_sum" s_least_sum (ad 15) (fd 15) := fun_mk (st := s_least_sum) l15 c15 k15
  have B15 : Binds K (fd 15) ["orders", "places"] [] := F15.binds (ps := ["orders", "places"]) fun _ _ _ _ _ _ us hl => match us, hl with | [_, _], _ => rfl
  have F16 : Fun K "_law_word" "_law_word" s__law_word (ad 16) (fd 16) := fun_mk (st := s__law_word) l16 c16 k16
  have B16 : Binds K (fd 16) ["e"] [] := F16.binds (ps := ["e"]) fun _ _ _ _ _ _ us hl => match us, hl with | [_], _ => rfl
  have F17 : Fun K "_law_told" "_law_told" s__law_told (ad 17) (fd 17) := fun_mk (st := s__law_told) l17 c17 k17
  have B17 : Binds K (fd 17) ["which", "orders", "places"] [] := F17.binds (ps := ["which", "orders", "places"]) fun _ _ _ _ _ _ us hl => match us, hl with | [_, _, _], _ => rfl
  have F18 : Fun K "is_layout" "is_layout" s_is_layout (ad 18) (fd 18) := fun_mk (st := s_is_layout) l18 c18 k18
  have B18 : Binds K (fd 18) ["orders", "places", "value"] [] := F18.binds (ps := ["orders", "places", "value"]) fun _ _ _ _ _ _ us hl => match us, hl with | [_, _, _], _ => rfl
  have F19 : Fun K "_law_given" "_law_given" s__law_given (ad 19) (fd 19) := fun_mk (st := s__law_given) l19 c19 k19
  have B19 : Binds K (fd 19) ["orders", "places"] [] := F19.binds (ps := ["orders", "places"]) fun _ _ _ _ _ _ us hl => match us, hl with | [_, _], _ => rfl
  have F20 : Fun K "runs_of" "runs_of" s_runs_of (ad 20) (fd 20) := fun_mk (st := s_runs_of) l20 c20 k20
  have B20 : Binds K (fd 20) ["orders", "layout"] [] := F20.binds (ps := ["orders", "layout"]) fun _ _ _ _ _ _ us hl => match us, hl with | [_, _], _ => rfl
  have F21 : Fun K "waste_of" "waste_of" s_waste_of (ad 21) (fd 21) := fun_mk (st := s_waste_of) l21 c21 k21
  have B21 : Binds K (fd 21) ["orders", "layout"] [] := F21.binds (ps := ["orders", "layout"]) fun _ _ _ _ _ _ us hl => match us, hl with | [_, _], _ => rfl
  have F22 : Fun K "law" "law" s_law (ad 22) (fd 22) := fun_mk (st := s_law) l22 c22 k22
  have B22 : Binds K (fd 22) ["script"] [] := F22.binds (ps := ["script"]) fun _ _ _ _ _ _ us hl => match us, hl with | [_], _ => rfl
  have ePrintError : (ecOf CPrintError COutOfRange CMalformed CNotThere CRefused CTooMuch) "PrintError" = CPrintError := by unfold ecOf; simp
  have eOutOfRange : (ecOf CPrintError COutOfRange CMalformed CNotThere CRefused CTooMuch) "OutOfRange" = COutOfRange := by unfold ecOf; simp
  have eMalformed : (ecOf CPrintError COutOfRange CMalformed CNotThere CRefused CTooMuch) "Malformed" = CMalformed := by unfold ecOf; simp
  have eNotThere : (ecOf CPrintError COutOfRange CMalformed CNotThere CRefused CTooMuch) "NotThere" = CNotThere := by unfold ecOf; simp
  have eRefused : (ecOf CPrintError COutOfRange CMalformed CNotThere CRefused CTooMuch) "Refused" = CRefused := by unfold ecOf; simp
  have eTooMuch : (ecOf CPrintError COutOfRange CMalformed CNotThere CRefused CTooMuch) "TooMuch" = CTooMuch := by unfold ecOf; simp
  have errs : Errs K (ecOf CPrintError COutOfRange CMalformed CNotThere CRefused CTooMuch) kn km isE := by
    refine ⟨fun n hn => ?_, fun n m hn hm => ?_, fun n m hn hm => ?_⟩
    · simp only [kn, Bool.or_eq_true, beq_iff_eq] at hn
      rcases hn with rfl | rfl
      · rw [eOutOfRange]; exact ⟨gaOutOfRange, ggOutOfRange, sCOutOfRange, hdOutOfRange, clOutOfRange, spG, tkG, mrOutOfRange⟩
      · rw [eTooMuch]; exact ⟨gaTooMuch, ggTooMuch, sCTooMuch, hdTooMuch, clTooMuch, spG, tkG, mrTooMuch⟩
    · simp only [kn, Bool.or_eq_true, beq_iff_eq] at hn
      simp only [km, Bool.or_eq_true, beq_iff_eq] at hm
      rcases hn with rfl | rfl
      · rcases hm with ((((rfl | rfl) | rfl) | rfl) | rfl) | rfl
        · rw [eOutOfRange]; (try rw [eMalformed]); rw [show isE "OutOfRange" "Malformed" = false from by decide]; exact kit_sub suOutOfRange_OutOfRange suOutOfRange_Malformed hdMalformed tCMalformed
        · rw [eOutOfRange]; (try rw [eNotThere]); rw [show isE "OutOfRange" "NotThere" = false from by decide]; exact kit_sub suOutOfRange_OutOfRange suOutOfRange_NotThere hdNotThere tCNotThere
        · rw [eOutOfRange]; (try rw [eOutOfRange]); rw [show isE "OutOfRange" "OutOfRange" = true from by decide]; exact kit_sub suOutOfRange_OutOfRange suOutOfRange_OutOfRange hdOutOfRange tCOutOfRange
        · rw [eOutOfRange]; (try rw [ePrintError]); rw [show isE "OutOfRange" "PrintError" = true from by decide]; exact kit_sub suOutOfRange_OutOfRange suOutOfRange_PrintError hdPrintError tCPrintError
        · rw [eOutOfRange]; (try rw [eRefused]); rw [show isE "OutOfRange" "Refused" = false from by decide]; exact kit_sub suOutOfRange_OutOfRange suOutOfRange_Refused hdRefused tCRefused
        · rw [eOutOfRange]; (try rw [eTooMuch]); rw [show isE "OutOfRange" "TooMuch" = false from by decide]; exact kit_sub suOutOfRange_OutOfRange suOutOfRange_TooMuch hdTooMuch tCTooMuch
      · rcases hm with ((((rfl | rfl) | rfl) | rfl) | rfl) | rfl
        · rw [eTooMuch]; (try rw [eMalformed]); rw [show isE "TooMuch" "Malformed" = false from by decide]; exact kit_sub suTooMuch_TooMuch suTooMuch_Malformed hdMalformed tCMalformed
        · rw [eTooMuch]; (try rw [eNotThere]); rw [show isE "TooMuch" "NotThere" = false from by decide]; exact kit_sub suTooMuch_TooMuch suTooMuch_NotThere hdNotThere tCNotThere
        · rw [eTooMuch]; (try rw [eOutOfRange]); rw [show isE "TooMuch" "OutOfRange" = false from by decide]; exact kit_sub suTooMuch_TooMuch suTooMuch_OutOfRange hdOutOfRange tCOutOfRange
        · rw [eTooMuch]; (try rw [ePrintError]); rw [show isE "TooMuch" "PrintError" = true from by decide]; exact kit_sub suTooMuch_TooMuch suTooMuch_PrintError hdPrintError tCPrintError
        · rw [eTooMuch]; (try rw [eRefused]); rw [show isE "TooMuch" "Refused" = false from by decide]; exact kit_sub suTooMuch_TooMuch suTooMuch_Refused hdRefused tCRefused
        · rw [eTooMuch]; (try rw [eTooMuch]); rw [show isE "TooMuch" "TooMuch" = true from by decide]; exact kit_sub suTooMuch_TooMuch suTooMuch_TooMuch hdTooMuch tCTooMuch
    · simp only [kn, Bool.or_eq_true, beq_iff_eq] at hn
      simp only [km, Bool.or_eq_true, beq_iff_eq] at hm
      rcases hn with rfl | rfl
      · rcases hm with ((((rfl | rfl) | rfl) | rfl) | rfl) | rfl
        · rw [eOutOfRange]; (try rw [eMalformed]); rw [show isE "OutOfRange" "Malformed" = false from by decide]; exact PySem.W.exm_ref sCMalformed hdMalformed tCMalformed suOutOfRange_Malformed
        · rw [eOutOfRange]; (try rw [eNotThere]); rw [show isE "OutOfRange" "NotThere" = false from by decide]; exact PySem.W.exm_ref sCNotThere hdNotThere tCNotThere suOutOfRange_NotThere
        · rw [eOutOfRange]; (try rw [eOutOfRange]); rw [show isE "OutOfRange" "OutOfRange" = true from by decide]; exact PySem.W.exm_ref sCOutOfRange hdOutOfRange tCOutOfRange suOutOfRange_OutOfRange
        · rw [eOutOfRange]; (try rw [ePrintError]); rw [show isE "OutOfRange" "PrintError" = true from by decide]; exact PySem.W.exm_ref sCPrintError hdPrintError tCPrintError suOutOfRange_PrintError
        · rw [eOutOfRange]; (try rw [eRefused]); rw [show isE "OutOfRange" "Refused" = false from by decide]; exact PySem.W.exm_ref sCRefused hdRefused tCRefused suOutOfRange_Refused
        · rw [eOutOfRange]; (try rw [eTooMuch]); rw [show isE "OutOfRange" "TooMuch" = false from by decide]; exact PySem.W.exm_ref sCTooMuch hdTooMuch tCTooMuch suOutOfRange_TooMuch
      · rcases hm with ((((rfl | rfl) | rfl) | rfl) | rfl) | rfl
        · rw [eTooMuch]; (try rw [eMalformed]); rw [show isE "TooMuch" "Malformed" = false from by decide]; exact PySem.W.exm_ref sCMalformed hdMalformed tCMalformed suTooMuch_Malformed
        · rw [eTooMuch]; (try rw [eNotThere]); rw [show isE "TooMuch" "NotThere" = false from by decide]; exact PySem.W.exm_ref sCNotThere hdNotThere tCNotThere suTooMuch_NotThere
        · rw [eTooMuch]; (try rw [eOutOfRange]); rw [show isE "TooMuch" "OutOfRange" = false from by decide]; exact PySem.W.exm_ref sCOutOfRange hdOutOfRange tCOutOfRange suTooMuch_OutOfRange
        · rw [eTooMuch]; (try rw [ePrintError]); rw [show isE "TooMuch" "PrintError" = true from by decide]; exact PySem.W.exm_ref sCPrintError hdPrintError tCPrintError suTooMuch_PrintError
        · rw [eTooMuch]; (try rw [eRefused]); rw [show isE "TooMuch" "Refused" = false from by decide]; exact PySem.W.exm_ref sCRefused hdRefused tCRefused suTooMuch_Refused
        · rw [eTooMuch]; (try rw [eTooMuch]); rw [show isE "TooMuch" "TooMuch" = true from by decide]; exact PySem.W.exm_ref sCTooMuch hdTooMuch tCTooMuch suTooMuch_TooMuch
  obtain ⟨cc7, PP7, ce7, CH7, hT7, nT7⟩ := tabs "are_orders" (by decide) _ _ _ _ _ (PySem.W.mg_of X G a7) l7
  have ce7 : cd7 = .ref cc7 := ce7
  obtain ⟨cc18, PP18, ce18, CH18, hT18, nT18⟩ := tabs "is_layout" (by decide) _ _ _ _ _ (PySem.W.mg_of X G a18) l18
  have ce18 : cd18 = .ref cc18 := ce18
  have T : Txt K mg ad fd (ecOf CPrintError COutOfRange CMalformed CNotThere CRefused CTooMuch) (fun q : Addr => q ∈ List.map (fun p : Addr × Addr => p.2) ([(cc7, PP7), (cc18, PP18)] : List (Addr × Addr))) := { F__law_draws := F0, g__law_draws := PySem.W.mg_of X G a0, b__law_draws := B0, F__law_layouts := F1, g__law_layouts := PySem.W.mg_of X G a1, b__law_layouts := B1, F__law_two := F2, g__law_two := PySem.W.mg_of X G a2, b__law_two := B2, F__law_take := F3, g__law_take := PySem.W.mg_of X G a3, b__law_take := B3, F__law_says := F4, g__law_says := PySem.W.mg_of X G a4, b__law_says := B4, F__law_runs := F5, g__law_runs := PySem.W.mg_of X G a5, b__law_runs := B5, F_is_number := F6, g_is_number := PySem.W.mg_of X G a6, b_is_number := B6, F_are_orders := F7, g_are_orders := PySem.W.mg_of X G a7, b_are_orders := B7, F__law_alike := F8, g__law_alike := PySem.W.mg_of X G a8, b__law_alike := B8, F_check_places := F9, g_check_places := PySem.W.mg_of X G a9, b_check_places := B9, F_needed := F10, g_needed := PySem.W.mg_of X G a10, b_needed := B10, F_fewest_runs := F11, g_fewest_runs := PySem.W.mg_of X G a11, b_fewest_runs := B11, F_told_layout := F12, g_told_layout := PySem.W.mg_of X G a12, b_told_layout := B12, F_all_layouts := F13, g_all_layouts := PySem.W.mg_of X G a13, b_all_layouts := B13, F_second_runs := F14, g_second_runs := PySem.W.mg_of X G a14, b_second_runs := B14, F_least_sum := F15, g_least_sum := PySem.W.mg_of X G a15, b_least_sum := B15, F__law_word := F16, g__law_word := PySem.W.mg_of X G a16, b__law_word := B16, F__law_told := F17, g__law_told := PySem.W.mg_of X G a17, b__law_told := B17, F_is_layout := F18, g_is_layout := PySem.W.mg_of X G a18, b_is_layout := B18, F__law_given := F19, g__law_given := PySem.W.mg_of X G a19, b__law_given := B19, F_runs_of := F20, g_runs_of := PySem.W.mg_of X G a20, b_runs_of := B20, F_waste_of := F21, g_waste_of := PySem.W.mg_of X G a21, b_waste_of := B21, F_law := F22, g_law := PySem.W.mg_of X G a22, b_law := B22, n_abs := PySem.W.mg_none_of X G z_abs, n_all := PySem.W.mg_none_of X G z_all, n_bool := PySem.W.mg_none_of X G z_bool, n_int := PySem.W.mg_none_of X G z_int, n_isinstance := PySem.W.mg_none_of X G z_isinstance, n_len := PySem.W.mg_none_of X G z_len, n_list := PySem.W.mg_none_of X G z_list, n_max := PySem.W.mg_none_of X G z_max, n_min := PySem.W.mg_none_of X G z_min, n_range := PySem.W.mg_none_of X G z_range, n_reversed := PySem.W.mg_none_of X G z_reversed, n_sorted := PySem.W.mg_none_of X G z_sorted, n_str := PySem.W.mg_none_of X G z_str, n_sum := PySem.W.mg_none_of X G z_sum, n_tuple := PySem.W.mg_none_of X G z_tuple, n_zip := PySem.W.mg_none_of X G z_zip, c_MOST_LABELS_oneplate := ⟨_, PySem.W.mg_of X G v_MOST_LABELS_oneplate⟩, c_MOST_LABELS_twoplates := ⟨_, PySem.W.mg_of X G v_MOST_LABELS_twoplates⟩, c_MOST_ORDER_oneplate := ⟨_, PySem.W.mg_of X G v_MOST_ORDER_oneplate⟩, c_MOST_ORDER_twoplates := ⟨_, PySem.W.mg_of X G v_MOST_ORDER_twoplates⟩, c_MOST_PLACES_oneplate := ⟨_, PySem.W.mg_of X G v_MOST_PLACES_oneplate⟩, c_MOST_PLACES_twoplates := ⟨_, PySem.W.mg_of X G v_MOST_PLACES_twoplates⟩, errs := errs, x_PrintError := by rw [ePrintError]; exact PySem.W.mg_of X G aCPrintError, xk_PrintError := by rw [ePrintError]; exact kCPrintError, xe_PrintError := by rw [ePrintError]; exact xCPrintError, xs_PrintError := by rw [ePrintError]; exact sCPrintError, xt_PrintError := by rw [ePrintError]; exact tCPrintError, x_OutOfRange := by rw [eOutOfRange]; exact PySem.W.mg_of X G aCOutOfRange, xk_OutOfRange := by rw [eOutOfRange]; exact kCOutOfRange, xe_OutOfRange := by rw [eOutOfRange]; exact xCOutOfRange, xs_OutOfRange := by rw [eOutOfRange]; exact sCOutOfRange, xt_OutOfRange := by rw [eOutOfRange]; exact tCOutOfRange, x_Malformed := by rw [eMalformed]; exact PySem.W.mg_of X G aCMalformed, xk_Malformed := by rw [eMalformed]; exact kCMalformed, xe_Malformed := by rw [eMalformed]; exact xCMalformed, xs_Malformed := by rw [eMalformed]; exact sCMalformed, xt_Malformed := by rw [eMalformed]; exact tCMalformed, x_NotThere := by rw [eNotThere]; exact PySem.W.mg_of X G aCNotThere, xk_NotThere := by rw [eNotThere]; exact kCNotThere, xe_NotThere := by rw [eNotThere]; exact xCNotThere, xs_NotThere := by rw [eNotThere]; exact sCNotThere, xt_NotThere := by rw [eNotThere]; exact tCNotThere, x_Refused := by rw [eRefused]; exact PySem.W.mg_of X G aCRefused, xk_Refused := by rw [eRefused]; exact kCRefused, xe_Refused := by rw [eRefused]; exact xCRefused, xs_Refused := by rw [eRefused]; exact sCRefused, xt_Refused := by rw [eRefused]; exact tCRefused, x_TooMuch := by rw [eTooMuch]; exact PySem.W.mg_of X G aCTooMuch, xk_TooMuch := by rw [eTooMuch]; exact kCTooMuch, xe_TooMuch := by rw [eTooMuch]; exact xCTooMuch, xs_TooMuch := by rw [eTooMuch]; exact sCTooMuch, xt_TooMuch := by rw [eTooMuch]; exact tCTooMuch }
  have e_hT : ∀ p ∈ ([(cc7, PP7), (cc18, PP18)] : List (Addr × Addr)), h.get? p.2 = some { cls := .none, data := .fields #[] } := by
    intro p hp
    simp only [List.mem_cons, List.mem_nil_iff, or_false] at hp
    rcases hp with rfl | rfl
    · exact hT7
    · exact hT18
  have e_nT : ∀ p ∈ ([(cc7, PP7), (cc18, PP18)] : List (Addr × Addr)), K.lookup p.2 = none := by
    intro p hp
    simp only [List.mem_cons, List.mem_nil_iff, or_false] at hp
    rcases hp with rfl | rfl
    · exact nT7
    · exact nT18
  have e_CH : ∀ p ∈ ([(cc7, PP7), (cc18, PP18)] : List (Addr × Addr)), PySem.W.CodeHd h p.1 p.2 := by
    intro p hp
    simp only [List.mem_cons, List.mem_nil_iff, or_false] at hp
    rcases hp with rfl | rfl
    · exact CH7
    · exact CH18
  refine lawAt (kt := true) (fd := fd 22) [(cc7, PP7), (cc18, PP18)] e_hT e_nT e_CH (fun s u => .of_eq rfl) fun base _ _ TBs => ?_
  have G__law_draws := ok__law_draws (P := P) (w := w) (base := base) T  
  have G__law_layouts := ok__law_layouts (P := P) (w := w) (base := base) T  
  have G__law_two := ok__law_two (P := P) (w := w) (base := base) T  G__law_layouts
  have G__law_take := ok__law_take (P := P) (w := w) (base := base) T  
  have G__law_says := ok__law_says (P := P) (w := w) (base := base) T  
  have G__law_runs := ok__law_runs (P := P) (w := w) (base := base) T  
  have G_is_number := ok_is_number (P := P) (w := w) (base := base) T  
  have G_are_orders := ok_are_orders (P := P) (w := w) (base := base) T (FunC.of l7 c7 ce7) (TBs (cc7, PP7) (by simp)) (by simp) G_is_number
  have G__law_alike := ok__law_alike (P := P) (w := w) (base := base) T  
  have G_check_places := ok_check_places (P := P) (w := w) (base := base) T  G_is_number
  have G_needed := ok_needed (P := P) (w := w) (base := base) T  
  have G_fewest_runs := ok_fewest_runs (P := P) (w := w) (base := base) T  G_check_places G_needed
  have G_told_layout := ok_told_layout (P := P) (w := w) (base := base) T  G_fewest_runs G_needed
  have G_all_layouts := ok_all_layouts (P := P) (w := w) (base := base) T  
  have G_second_runs := ok_second_runs (P := P) (w := w) (base := base) T  
  have G_least_sum := ok_least_sum (P := P) (w := w) (base := base) T  G_is_number G_all_layouts G_second_runs
  have G__law_word := ok__law_word (P := P) (w := w) (base := base) T  
  have G__law_told := ok__law_told (P := P) (w := w) (base := base) T  G_fewest_runs G_told_layout G_least_sum G__law_word
  have G_is_layout := ok_is_layout (P := P) (w := w) (base := base) T (FunC.of l18 c18 ce18) (TBs (cc18, PP18) (by simp)) (by simp) G_is_number
  have G__law_given := ok__law_given (P := P) (w := w) (base := base) T  G__law_runs
  have G_runs_of := ok_runs_of (P := P) (w := w) (base := base) T  
  have G_waste_of := ok_waste_of (P := P) (w := w) (base := base) T  G_runs_of
  have G_law := ok_law (P := P) (w := w) (base := base) T  G__law_draws G__law_take G__law_says G_are_orders G__law_runs G__law_layouts G__law_alike G__law_told G__law_given G_is_layout G_waste_of G_runs_of G_fewest_runs G__law_two
  exact lawOkT G_law plain
theorem plain : Plain := fun ns h _ => plain_ ns h
end K10
open PySem PySem.W PyProof.Rows
set_option maxHeartbeats 0 in
theorem PySem.Challenge.cw_printsheld_k10_whole_plates_for_labels_holds : PySem.Challenge.rw_printsheld_k10_whole_plates_for_labels.Holds := by
  w_on; o_law; k_head; (case hw => w_witness2)
  k_fill
  refine Pd.walk_ofNames ["are_orders", "is_layout"] (l := PySem.Challenge.rw_printsheld_k10_whole_plates_for_labels) (n := 63) (k := 10) (x := "script") (CX := fun w => L2N.CX PySem.Challenge.rw_printsheld_k10_whole_plates_for_labels.prog w) rfl (by decide) rfl ⟨rfl, by decide, by decide⟩ (by kernel_rfl) (fun w h Y => PySem.W.kIn_of Y) (fun w => by rfl) ?F (fun _ _ _ _ _ ⟨_, _, _, _, _, _, _, _, _, _, _, _, z⟩ => z)
  case F =>
    intro w mg fa h KX G hmg tabs
    refine' K10.all_mk K10.plain KX G hmg ?a0 ?l0 ?c0 ?k0 ?a1 ?l1 ?c1 ?k1 ?a2 ?l2 ?c2 ?k2 ?a3 ?l3 ?c3 ?k3 ?a4 ?l4 ?c4 ?k4 ?a5 ?l5 ?c5 ?k5 ?a6 ?l6 ?c6 ?k6 ?a7 ?l7 ?c7 ?k7 ?a8 ?l8 ?c8 ?k8 ?a9 ?l9 ?c9 ?k9 ?a10 ?l10 ?c10 ?k10 ?a11 ?l11 ?c11 ?k11 ?a12 ?l12 ?c12 ?k12 ?a13 ?l13 ?c13 ?k13 ?a14 ?l14 ?c14 ?k14 ?a15 ?l15 ?c15 ?k15 ?a16 ?l16 ?c16 ?k16 ?a17 ?l17 ?c17 ?k17 ?a18 ?l18 ?c18 ?k18 ?a19 ?l19 ?c19 ?k19 ?a20 ?l20 ?c20 ?k20 ?a21 ?l21 ?c21 ?k21 ?a22 ?l22 ?c22 ?k22 ?aCPrintError ?kCPrintError ?xCPrintError ?sCPrintError ?tCPrintError ?hdPrintError ?aCOutOfRange ?kCOutOfRange ?xCOutOfRange ?sCOutOfRange ?tCOutOfRange ?hdOutOfRange ?aCMalformed ?kCMalformed ?xCMalformed ?sCMalformed ?tCMalformed ?hdMalformed ?aCNotThere ?kCNotThere ?xCNotThere ?sCNotThere ?tCNotThere ?hdNotThere ?aCRefused ?kCRefused ?xCRefused ?sCRefused ?tCRefused ?hdRefused ?aCTooMuch ?kCTooMuch ?xCTooMuch ?sCTooMuch ?tCTooMuch ?hdTooMuch ?gaOutOfRange ?ggOutOfRange ?clOutOfRange ?mrOutOfRange ?suOutOfRange_Malformed ?suOutOfRange_NotThere ?suOutOfRange_OutOfRange ?suOutOfRange_PrintError ?suOutOfRange_Refused ?suOutOfRange_TooMuch ?gaTooMuch ?ggTooMuch ?clTooMuch ?mrTooMuch ?suTooMuch_Malformed ?suTooMuch_NotThere ?suTooMuch_OutOfRange ?suTooMuch_PrintError ?suTooMuch_Refused ?suTooMuch_TooMuch ?spG ?tkG ?z_abs ?z_all ?z_bool ?z_int ?z_isinstance ?z_len ?z_list ?z_max ?z_min ?z_range ?z_reversed ?z_sorted ?z_str ?z_sum ?z_tuple ?z_zip ?v_MOST_LABELS_oneplate ?v_MOST_LABELS_twoplates ?v_MOST_ORDER_oneplate ?v_MOST_ORDER_twoplates ?v_MOST_PLACES_oneplate ?v_MOST_PLACES_twoplates tabs
    (case a0 => k_is); (case l0 => k_is); (case c0 => k_is); (case k0 => k_is); (case a1 => k_is); (case l1 => k_is); (case c1 => k_is); (case k1 => k_is); (case a2 => k_is); (case l2 => k_is); (case c2 => k_is); (case k2 => k_is); (case a3 => k_is); (case l3 => k_is); (case c3 => k_is); (case k3 => k_is); (case a4 => k_is); (case l4 => k_is); (case c4 => k_is); (case k4 => k_is); (case a5 => k_is); (case l5 => k_is); (case c5 => k_is); (case k5 => k_is); (case a6 => k_is); (case l6 => k_is); (case c6 => k_is); (case k6 => k_is); (case a7 => k_is); (case l7 => k_is); (case c7 => k_is); (case k7 => k_is); (case a8 => k_is); (case l8 => k_is); (case c8 => k_is); (case k8 => k_is); (case a9 => k_is); (case l9 => k_is); (case c9 => k_is); (case k9 => k_is); (case a10 => k_is); (case l10 => k_is); (case c10 => k_is); (case k10 => k_is); (case a11 => k_is); (case l11 => k_is); (case c11 => k_is); (case k11 => k_is); (case a12 => k_is); (case l12 => k_is); (case c12 => k_is); (case k12 => k_is); (case a13 => k_is); (case l13 => k_is); (case c13 => k_is); (case k13 => k_is); (case a14 => k_is); (case l14 => k_is); (case c14 => k_is); (case k14 => k_is); (case a15 => k_is); (case l15 => k_is); (case c15 => k_is); (case k15 => k_is); (case a16 => k_is); (case l16 => k_is); (case c16 => k_is); (case k16 => k_is); (case a17 => k_is); (case l17 => k_is); (case c17 => k_is); (case k17 => k_is); (case a18 => k_is); (case l18 => k_is); (case c18 => k_is); (case k18 => k_is); (case a19 => k_is); (case l19 => k_is); (case c19 => k_is); (case k19 => k_is); (case a20 => k_is); (case l20 => k_is); (case c20 => k_is); (case k20 => k_is); (case a21 => k_is); (case l21 => k_is); (case c21 => k_is); (case k21 => k_is); (case a22 => k_is); (case l22 => k_is); (case c22 => k_is); (case k22 => k_is); (case aCPrintError => k_is); (case kCPrintError => k_is); (case xCPrintError => k_exc); (case sCPrintError => k_is); (case tCPrintError => k_is); (case hdPrintError => k_is); (case aCOutOfRange => k_is); (case kCOutOfRange => k_is); (case xCOutOfRange => k_exc); (case sCOutOfRange => k_is); (case tCOutOfRange => k_is); (case hdOutOfRange => k_is); (case aCMalformed => k_is); (case kCMalformed => k_is); (case xCMalformed => k_exc); (case sCMalformed => k_is); (case tCMalformed => k_is); (case hdMalformed => k_is); (case aCNotThere => k_is); (case kCNotThere => k_is); (case xCNotThere => k_exc); (case sCNotThere => k_is); (case tCNotThere => k_is); (case hdNotThere => k_is); (case aCRefused => k_is); (case kCRefused => k_is); (case xCRefused => k_exc); (case sCRefused => k_is); (case tCRefused => k_is); (case hdRefused => k_is); (case aCTooMuch => k_is); (case kCTooMuch => k_is); (case xCTooMuch => k_exc); (case sCTooMuch => k_is); (case tCTooMuch => k_is); (case hdTooMuch => k_is); (case gaOutOfRange => k_is); (case ggOutOfRange => k_is); (case clOutOfRange => k_is); (case mrOutOfRange => k_is); (case suOutOfRange_Malformed => first | rfl | k_is); (case suOutOfRange_NotThere => first | rfl | k_is); (case suOutOfRange_OutOfRange => first | rfl | k_is); (case suOutOfRange_PrintError => first | rfl | k_is); (case suOutOfRange_Refused => first | rfl | k_is); (case suOutOfRange_TooMuch => first | rfl | k_is); (case gaTooMuch => k_is); (case ggTooMuch => k_is); (case clTooMuch => k_is); (case mrTooMuch => k_is); (case suTooMuch_Malformed => first | rfl | k_is); (case suTooMuch_NotThere => first | rfl | k_is); (case suTooMuch_OutOfRange => first | rfl | k_is); (case suTooMuch_PrintError => first | rfl | k_is); (case suTooMuch_Refused => first | rfl | k_is); (case suTooMuch_TooMuch => first | rfl | k_is); (case spG => k_is); (case tkG => k_is); (case z_abs => k_is); (case z_all => k_is); (case z_bool => k_is); (case z_int => k_is); (case z_isinstance => k_is); (case z_len => k_is); (case z_list => k_is); (case z_max => k_is); (case z_min => k_is); (case z_range => k_is); (case z_reversed => k_is); (case z_sorted => k_is); (case z_str => k_is); (case z_sum => k_is); (case z_tuple => k_is); (case z_zip => k_is); (case v_MOST_LABELS_oneplate => k_is); (case v_MOST_LABELS_twoplates => k_is); (case v_MOST_ORDER_oneplate => k_is); (case v_MOST_ORDER_twoplates => k_is); (case v_MOST_PLACES_oneplate => k_is); (case v_MOST_PLACES_twoplates => k_is)
end
