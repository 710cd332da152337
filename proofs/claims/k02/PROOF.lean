import PyProof.Rows.All
import Wide.All
import OpenK.AllK
import Wide.FinOn
import HandS.ForMost
import HandS.Star
import HandS.IsInst
import HandS.Flow
import HandS.TupAny
import HandS.SortInts
import HandS.Conv
import HandS.WordsExc
import HandS.CallSlots
import HandS.TryOnly
import HandS.ExcInit
import HandS.Deep
import HandS.Zip
import KE.GoesMore
import KE.KExcInit
import HandS.TryMany
import HandS.Strs
import HandS.SetFor
import KE.KStateDown
import HandS.Defaults
import HandS.Head0
import HandS.Head1
import HandS.Head2
import HandS.HeadEnd
import HandS.HeadHook1
import HandS.HeadHook2
import PySem.Challenge.RW_wholeflow_k02_steps_of_nets
set_option Elab.async false
set_option linter.all false
set_option maxRecDepth 100000
set_option maxHeartbeats 4000000
/-! The data layer: deep data D, a store of changing lists, readings that are functions (Wd). -/
namespace Wd
open PySem PySem.Spec PyProof.Rows L2

/-! ### data -/
inductive D where
  | non | bl (b : Bool) | int (i : Int) | str (x : Str) | tup (ds : List D) | lst (ds : List D) | ro (ds : List D) | loc (n : Nat)

/-- the written list, the written tuple at a -/
def WrL (K : PySem.W.Frag) (a : Addr) (xs : List V) : Prop :=
  ∃ (o : Obj) (its : Array Value) (n : Nat), K.lookup a = some o ∧ o.cls = .type "list" ∧ o.dict = none ∧ o.data = .seq its n ∧ its.size ≤ sizeLine ∧ Vals xs its.toList
def WrT (K : PySem.W.Frag) (a : Addr) (xs : List V) : Prop :=
  ∃ (o : Obj) (its : Array Value) (n : Nat), K.lookup a = some o ∧ o.cls = .type "tuple" ∧ o.data = .seq its n ∧ its.size ≤ sizeLine ∧ Vals xs its.toList
/-- a tuple to be read; a list that is never written; a list that is locked -/
def TupAt (K : PySem.W.Frag) (B : List Addr) (H : Hp) (a : Addr) (xs : List V) : Prop := (H a = some (.tup xs) ∧ a ∉ B) ∨ WrT K a xs
def LstAt (B : List Addr) (H : Hp) (a : Addr) (xs : List V) : Prop := H a = some (.lst xs) ∧ a ∉ B
def RoAt (K : PySem.W.Frag) (B : List Addr) (H : Hp) (a : Addr) (xs : List V) : Prop := (∃ o, H a = some (.frz o (.lst xs)) ∧ a ∉ B) ∨ WrL K a xs

mutual
/-- v stands for d: A the places of the store, B what may be written -/
inductive Rep (K : PySem.W.Frag) (A B : List Addr) (H : Hp) : V → D → Prop
  | non : Rep K A B H .non .non
  | bl (b : Bool) : Rep K A B H (.bl b) (.bl b)
  | int (i : Int) : Rep K A B H (.int i) (.int i)
  | str (x : Str) : Rep K A B H (.str x) (.str x)
  | tup {a : Addr} {xs : List V} {ds : List D} : TupAt K B H a xs → Reps K A B H xs ds → Rep K A B H (.ref a) (.tup ds)
  | lst {a : Addr} {xs : List V} {ds : List D} : LstAt B H a xs → Reps K A B H xs ds → Rep K A B H (.ref a) (.lst ds)
  | ro {a : Addr} {xs : List V} {ds : List D} : RoAt K B H a xs → Reps K A B H xs ds → Rep K A B H (.ref a) (.ro ds)
  | loc {a : Addr} {n : Nat} : A[n]? = some a → Rep K A B H (.ref a) (.loc n)
inductive Reps (K : PySem.W.Frag) (A B : List Addr) (H : Hp) : List V → List D → Prop
  | nil : Reps K A B H [] []
  | cons {v : V} {vs : List V} {d : D} {ds : List D} : Rep K A B H v d → Reps K A B H vs ds → Reps K A B H (v :: vs) (d :: ds)
end

theorem TupAt.sq {K : PySem.W.Frag} {B : List Addr} {H : Hp} {a : Addr} {xs : List V} (h : TupAt K B H a xs) : SqT K H a xs := by
  rcases h with ⟨h, _⟩ | h
  · exact .inl (.inl h)
  · exact .inr h
theorem LstAt.sq {K : PySem.W.Frag} {B : List Addr} {H : Hp} {a : Addr} {xs : List V} (h : LstAt B H a xs) : SqL K H a xs := .inl (.inl h.1)
theorem RoAt.sq {K : PySem.W.Frag} {B : List Addr} {H : Hp} {a : Addr} {xs : List V} (h : RoAt K B H a xs) : SqL K H a xs := by
  rcases h with ⟨o, h, _⟩ | h
  · exact .inl (.inr ⟨o, h⟩)
  · exact .inr h

section
variable {K : PySem.W.Frag} {A A' B B' : List Addr} {H H' : Hp}
theorem Reps.len : ∀ {vs : List V} {ds : List D}, Reps K A B H vs ds → vs.length = ds.length
  | _, _, .nil => rfl
  | _, _, .cons _ t => by rw [List.length_cons, List.length_cons, Reps.len t]
theorem Reps.get : ∀ {vs : List V} {ds : List D} {i : Nat} {d : D}, Reps K A B H vs ds → ds[i]? = some d → ∃ v, vs[i]? = some v ∧ Rep K A B H v d
  | _, _, _, _, .nil, e => by simp at e
  | _, _, 0, _, .cons r _, e => by simp at e; subst e; exact ⟨_, rfl, r⟩
  | _, _, i + 1, d, .cons _ t, e => by
    obtain ⟨u, h1, h2⟩ := Reps.get (i := i) (d := d) t (by simpa using e)
    exact ⟨u, by simpa using h1, h2⟩
theorem Reps.getV : ∀ {vs : List V} {ds : List D} {i : Nat} {v : V}, Reps K A B H vs ds → vs[i]? = some v → ∃ d, ds[i]? = some d ∧ Rep K A B H v d
  | _, _, _, _, .nil, e => by simp at e
  | _, _, 0, _, .cons r _, e => by simp at e; subst e; exact ⟨_, rfl, r⟩
  | _, _, i + 1, v, .cons _ t, e => by
    obtain ⟨u, h1, h2⟩ := Reps.getV (i := i) (v := v) t (by simpa using e)
    exact ⟨u, by simpa using h1, h2⟩
theorem Reps.app : ∀ {xs ys : List V} {ds es : List D}, Reps K A B H xs ds → Reps K A B H ys es → Reps K A B H (xs ++ ys) (ds ++ es)
  | _, _, _, _, .nil, s => s
  | _, _, _, _, .cons r t, s => .cons r (Reps.app t s)
theorem Reps.take : ∀ {xs : List V} {ds : List D} (n : Nat), Reps K A B H xs ds → Reps K A B H (xs.take n) (ds.take n)
  | _, _, 0, _ => .nil
  | _, _, _ + 1, .nil => .nil
  | _, _, n + 1, .cons r t => .cons r (Reps.take n t)
theorem Reps.drop : ∀ {xs : List V} {ds : List D} (n : Nat), Reps K A B H xs ds → Reps K A B H (xs.drop n) (ds.drop n)
  | _, _, 0, r => r
  | _, _, _ + 1, .nil => .nil
  | _, _, n + 1, .cons _ t => Reps.drop n t
theorem Reps.set {v : V} {d : D} (r : Rep K A B H v d) : ∀ {xs : List V} {ds : List D} (i : Nat), Reps K A B H xs ds → Reps K A B H (xs.set i v) (ds.set i d)
  | _, _, _, .nil => .nil
  | _, _, 0, .cons _ t => .cons r t
  | _, _, i + 1, .cons q t => .cons q (Reps.set r i t)
theorem Reps.erase : ∀ {xs : List V} {ds : List D} (i : Nat), Reps K A B H xs ds → Reps K A B H (xs.eraseIdx i) (ds.eraseIdx i)
  | _, _, _, .nil => .nil
  | _, _, 0, .cons _ t => t
  | _, _, i + 1, .cons q t => .cons q (Reps.erase i t)
theorem Reps.dropLast {xs : List V} {ds : List D} (h : Reps K A B H xs ds) : Reps K A B H xs.dropLast ds.dropLast := by
  rw [List.dropLast_eq_take, List.dropLast_eq_take, h.len]
  exact h.take _
theorem Reps.rev : ∀ {xs : List V} {ds : List D}, Reps K A B H xs ds → Reps K A B H xs.reverse ds.reverse
  | _, _, .nil => .nil
  | _, _, .cons r t => by
    rw [List.reverse_cons, List.reverse_cons]
    exact (Reps.rev t).app (.cons r .nil)
theorem Reps.insert {v : V} {d : D} (r : Rep K A B H v d) {xs : List V} {ds : List D} (i : Nat) (h : Reps K A B H xs ds) : Reps K A B H (xs.take i ++ v :: xs.drop i) (ds.take i ++ d :: ds.drop i) :=
  (h.take i).app (.cons r (h.drop i))

/-- what carries a datum over: the store's places stay, the read objects stay -/
structure Carry (A A' B B' : List Addr) (H H' : Hp) : Prop where
  loc : ∀ (n : Nat) (a : Addr), A[n]? = some a → A'[n]? = some a
  keep : ∀ a o, a ∉ B → H a = some o → H' a = some o
  out : ∀ a, a ∈ B' → a ∈ B ∨ H a = none
theorem Carry.nin (c : Carry A A' B B' H H') {a : Addr} {o : HO} (h : a ∉ B) (e : H a = some o) : a ∉ B' := fun z => by
  rcases c.out a z with q | q
  · exact h q
  · rw [e] at q; cases q
theorem TupAt.carry {a : Addr} {xs : List V} (c : Carry A A' B B' H H') (h : TupAt K B H a xs) : TupAt K B' H' a xs := by
  rcases h with ⟨h, n⟩ | h
  · exact .inl ⟨c.keep a _ n h, c.nin n h⟩
  · exact .inr h
theorem LstAt.carry {a : Addr} {xs : List V} (c : Carry A A' B B' H H') (h : LstAt B H a xs) : LstAt B' H' a xs := ⟨c.keep a _ h.2 h.1, c.nin h.2 h.1⟩
theorem RoAt.carry {a : Addr} {xs : List V} (c : Carry A A' B B' H H') (h : RoAt K B H a xs) : RoAt K B' H' a xs := by
  rcases h with ⟨o, h, n⟩ | h
  · exact .inl ⟨o, c.keep a _ n h, c.nin n h⟩
  · exact .inr h
mutual
theorem Rep.carry (c : Carry A A' B B' H H') : ∀ {d : D} {v : V}, Rep K A B H v d → Rep K A' B' H' v d
  | .non, _, h => by cases h; exact .non
  | .bl b, _, h => by cases h; exact .bl b
  | .int i, _, h => by cases h; exact .int i
  | .str x, _, h => by cases h; exact .str x
  | .tup ds, _, h => by
    cases h with
    | tup h1 h2 => exact .tup (h1.carry c) (Reps.carry c h2)
  | .lst ds, _, h => by
    cases h with
    | lst h1 h2 => exact .lst (h1.carry c) (Reps.carry c h2)
  | .ro ds, _, h => by
    cases h with
    | ro h1 h2 => exact .ro (h1.carry c) (Reps.carry c h2)
  | .loc n, _, h => by
    cases h with
    | loc h1 => exact .loc (c.loc _ _ h1)
theorem Reps.carry (c : Carry A A' B B' H H') : ∀ {ds : List D} {vs : List V}, Reps K A B H vs ds → Reps K A' B' H' vs ds
  | [], _, h => by cases h; exact .nil
  | d :: ds, _, h => by
    cases h with
    | cons h1 h2 => exact .cons (Rep.carry c h1) (Reps.carry c h2)
end
end

/-! ### the store, the slots -/
inductive SO where
  | lst (ds : List D)
abbrev Store := List SO
inductive Sl where
  | un | val (d : D) | own (ds : List D)
structure Ms where
  r : List Sl
  S : Store
/-- an exception: its class's name, its attributes -/
structure Ex where
  c : Str
  fs : List (Str × D)

def ObjR (K : PySem.W.Frag) (A B : List Addr) (H : Hp) (a : Addr) : SO → Prop
  | .lst ds => ∃ xs, H a = some (.lst xs) ∧ Reps K A B H xs ds
structure Sim (K : PySem.W.Frag) (A B : List Addr) (S : Store) (H : Hp) : Prop where
  len : A.length = S.length
  nd : A.Nodup
  obj : ∀ (n : Nat) (o : SO), S[n]? = some o → ∃ a, A[n]? = some a ∧ ObjR K A B H a o
def SlotR (K : PySem.W.Frag) (A B : List Addr) (H : Hp) : Option V → Option Addr → Sl → Prop
  | _, o, .un => o = none
  | x, o, .val d => o = none ∧ ∃ v, x = some v ∧ Rep K A B H v d
  | x, o, .own ds => ∃ a xs, o = some a ∧ x = some (.ref a) ∧ H a = some (.lst xs) ∧ Reps K A B H xs ds
abbrev Ow := List (Option Addr)
def own (O : Ow) : List Addr := O.filterMap id
theorem mem_own {O : Ow} {a : Addr} : a ∈ own O ↔ ∃ i : Nat, O[i]? = some (some a) := by
  unfold own
  rw [List.mem_filterMap]
  constructor
  · rintro ⟨x, hx, e⟩
    obtain ⟨i, hi⟩ := List.mem_iff_getElem?.mp hx
    have e' : x = some a := e
    exact ⟨i, by rw [hi, e']⟩
  · rintro ⟨i, hi⟩
    exact ⟨some a, List.mem_iff_getElem?.mpr ⟨i, hi⟩, rfl⟩
abbrev bad (A : List Addr) (O : Ow) (Z : List Addr) : List Addr := A ++ (own O ++ Z)
theorem mem_bad {A Z : List Addr} {O : Ow} {a : Addr} : a ∈ bad A O Z ↔ a ∈ A ∨ a ∈ own O ∨ a ∈ Z := by
  unfold bad
  rw [List.mem_append, List.mem_append]

/-- the state of a def's body: Z what else may be written by others -/
structure RS (K : PySem.W.Frag) (Z A : List Addr) (O : Ow) (H : Hp) (σ : L2.St) (m : Ms) : Prop where
  sim : Sim K A (bad A O Z) m.S H
  slen : σ.length = m.r.length
  olen : O.length = m.r.length
  slot : ∀ (i : Nat) (x : Option V) (o : Option Addr) (l : Sl), σ[i]? = some x → O[i]? = some o → m.r[i]? = some l → SlotR K A (bad A O Z) H x o l
  inj : ∀ (i j : Nat) (a : Addr), O[i]? = some (some a) → O[j]? = some (some a) → i = j
  apart : ∀ a, a ∈ own O → a ∉ A ∧ a ∉ Z
  zin : ∀ a, a ∈ Z → H a ≠ none
/-- the heap goes on -/
structure Ev (A : List Addr) (O : Ow) (H : Hp) (A' : List Addr) (O' : Ow) (H' : Hp) : Prop where
  pre : ∃ A1, A' = A ++ A1 ∧ ∀ a, a ∈ A1 → H a = none
  own : ∀ a, a ∈ own O' → a ∈ own O ∨ H a = none
  keep : ∀ a o, a ∉ A → a ∉ Wd.own O → H a = some o → H' a = some o
  dom : ∀ a, H' a = none → H a = none
section
variable {K : PySem.W.Frag} {Z A A' A'' : List Addr} {O O' O'' : Ow} {H H' H'' : Hp} {σ : L2.St} {m : Ms}
theorem Ev.refl : Ev A O H A O H := ⟨⟨[], (List.append_nil A).symm, fun _ h => nomatch h⟩, fun _ h => .inl h, fun _ _ _ _ e => e, fun _ e => e⟩
theorem Ev.trans (x : Ev A O H A' O' H') (y : Ev A' O' H' A'' O'' H'') : Ev A O H A'' O'' H'' := by
  obtain ⟨A1, e1, f1⟩ := x.pre
  obtain ⟨A2, e2, f2⟩ := y.pre
  refine ⟨⟨A1 ++ A2, by rw [e2, e1, List.append_assoc], fun a ha => ?_⟩, fun a ha => ?_, fun a o h1 h2 e => ?_, fun a e => x.dom a (y.dom a e)⟩
  · rcases List.mem_append.mp ha with z | z
    · exact f1 a z
    · exact x.dom a (f2 a z)
  · rcases y.own a ha with z | z
    · exact x.own a z
    · exact .inr (x.dom a z)
  · refine y.keep a o (fun z => ?_) (fun z => ?_) (x.keep a o h1 h2 e)
    · rw [e1] at z
      rcases List.mem_append.mp z with q | q
      · exact h1 q
      · rw [f1 a q] at e; cases e
    · rcases x.own a z with q | q
      · exact h2 q
      · rw [q] at e; cases e
theorem Ev.carry (x : Ev A O H A' O' H') : Carry A A' (bad A O Z) (bad A' O' Z) H H' := by
  obtain ⟨A1, e1, f1⟩ := x.pre
  refine ⟨fun n a e => ?_, fun a o h e => ?_, fun a h => ?_⟩
  · rw [e1, List.getElem?_append_left (List.getElem?_eq_some_iff.mp e).1]
    exact e
  · have h' : ¬ (a ∈ A ∨ a ∈ Wd.own O ∨ a ∈ Z) := fun z => h (mem_bad.mpr z)
    exact x.keep a o (fun z => h' (.inl z)) (fun z => h' (.inr (.inl z))) e
  · rcases mem_bad.mp h with z | z | z
    · rw [e1] at z
      rcases List.mem_append.mp z with q | q
      · exact .inl (mem_bad.mpr (.inl q))
      · exact .inr (f1 a q)
    · rcases x.own a z with q | q
      · exact .inl (mem_bad.mpr (.inr (.inl q)))
      · exact .inr q
    · exact .inl (mem_bad.mpr (.inr (.inr z)))
end
end Wd

namespace Wd
open PySem PySem.Spec PyProof.Rows L2

/-! ### the state goes on -/
section
variable {K : PySem.W.Frag} {Z A A' B B' : List Addr} {O O' : Ow} {H H' : Hp} {σ : L2.St} {m : Ms}
theorem Carry.grow (hB : ∀ a, a ∈ B' → a ∈ B ∨ H a = none) (k : ∀ a o, H a = some o → H' a = some o) : Carry A A B B' H H' := ⟨fun _ _ e => e, fun a o _ e => k a o e, hB⟩
/-- fewer places may be written -/
theorem Carry.less (h : ∀ a, a ∈ B' → a ∈ B) : Carry A A B B' H H := ⟨fun _ _ e => e, fun _ _ _ e => e, fun a z => .inl (h a z)⟩
theorem Ev.grow (k : ∀ a o, H a = some o → H' a = some o) : Ev A O H A O H' := ⟨⟨[], (List.append_nil A).symm, fun _ h => nomatch h⟩, fun _ h => .inl h, fun a o _ _ e => k a o e, fun a e => by
  cases q : H a with
  | none => rfl
  | some o => rw [k a o q] at e; cases e⟩
theorem SlotR.carry {x : Option V} {o : Option Addr} {l : Sl} (c : Carry A A' B B' H H') (ho : ∀ a xs, o = some a → H a = some (.lst xs) → H' a = some (.lst xs)) (h : SlotR K A B H x o l) : SlotR K A' B' H' x o l := by
  cases l with
  | un => exact h
  | val d => obtain ⟨e, v, e2, r⟩ := h; exact ⟨e, v, e2, r.carry c⟩
  | own ds => obtain ⟨a, xs, e, e2, e3, r⟩ := h; exact ⟨a, xs, e, e2, ho a xs e e3, r.carry c⟩
theorem ObjR.carry {a : Addr} {o : SO} (c : Carry A A' B B' H H') (ho : ∀ xs, H a = some (.lst xs) → H' a = some (.lst xs)) (h : ObjR K A B H a o) : ObjR K A' B' H' a o := by
  cases o with
  | lst ds => obtain ⟨xs, e, r⟩ := h; exact ⟨xs, ho xs e, r.carry c⟩
theorem RS.grow (r : RS K Z A O H σ m) (k : ∀ a o, H a = some o → H' a = some o) : RS K Z A O H' σ m := by
  have c : Carry A A (bad A O Z) (bad A O Z) H H' := .grow (fun _ h => .inl h) k
  refine ⟨⟨r.sim.len, r.sim.nd, fun n o e => ?_⟩, r.slen, r.olen, fun i x o l e1 e2 e3 => (r.slot i x o l e1 e2 e3).carry c fun a xs _ e => k _ _ e, r.inj, r.apart, fun a h e => r.zin a h ?_⟩
  · obtain ⟨a, ea, q⟩ := r.sim.obj n o e
    exact ⟨a, ea, q.carry c fun xs e => k _ _ e⟩
  · cases q : H a with
    | none => rfl
    | some o => rw [k a o q] at e; cases e
theorem upd_grow {p : Addr} {o : HO} (hp : H p = none) : ∀ a u, H a = some u → upd H p o a = some u := fun a u e => by
  rw [upd_ne (ne_of_none e hp)]
  exact e
theorem Ev.new {p : Addr} {o : HO} (hp : H p = none) : Ev A O H A O (upd H p o) := .grow (upd_grow hp)
theorem RS.new {p : Addr} {o : HO} (r : RS K Z A O H σ m) (hp : H p = none) : RS K Z A O (upd H p o) σ m := r.grow (upd_grow hp)
theorem RS.notBad {p : Addr} (r : RS K Z A O H σ m) (hp : H p = none) : p ∉ bad A O Z := fun z => by
  rcases mem_bad.mp z with q | q | q
  · obtain ⟨n, hn⟩ := List.mem_iff_getElem?.mp q
    have hlt : n < m.S.length := by rw [← r.sim.len]; exact (List.getElem?_eq_some_iff.mp hn).1
    obtain ⟨a, ea, x⟩ := r.sim.obj n m.S[n] (List.getElem?_eq_getElem hlt)
    rw [hn] at ea
    cases ea
    cases e : m.S[n] with
    | lst ds => rw [e] at x; obtain ⟨xs, e2, _⟩ := x; rw [hp] at e2; cases e2
  · obtain ⟨i, hi⟩ := mem_own.mp q
    have hlt : i < m.r.length := by rw [← r.olen]; exact (List.getElem?_eq_some_iff.mp hi).1
    have hls : i < σ.length := by rw [r.slen]; exact hlt
    have s := r.slot i σ[i] (some p) m.r[i] (List.getElem?_eq_getElem hls) hi (List.getElem?_eq_getElem hlt)
    cases e : m.r[i] with
    | un => rw [e] at s; exact nomatch (show some p = none from s)
    | val d => rw [e] at s; exact nomatch s.1
    | own ds => rw [e] at s; obtain ⟨a, xs, e1, _, e3, _⟩ := s; cases e1; rw [hp] at e3; cases e3
  · exact r.zin p q hp
theorem Rep.newTup {p : Addr} {xs : List V} {ds : List D} (r : RS K Z A O H σ m) (hp : H p = none) (h : Reps K A (bad A O Z) H xs ds) : Rep K A (bad A O Z) (upd H p (.tup xs)) (.ref p) (.tup ds) :=
  .tup (.inl ⟨upd_same, r.notBad hp⟩) (h.carry (.grow (fun _ h => .inl h) (upd_grow hp)))
theorem Rep.newLst {p : Addr} {xs : List V} {ds : List D} (r : RS K Z A O H σ m) (hp : H p = none) (h : Reps K A (bad A O Z) H xs ds) : Rep K A (bad A O Z) (upd H p (.lst xs)) (.ref p) (.lst ds) :=
  .lst ⟨upd_same, r.notBad hp⟩ (h.carry (.grow (fun _ h => .inl h) (upd_grow hp)))
/-- the i-th slot -/
theorem RS.at (r : RS K Z A O H σ m) {i : Nat} {l : Sl} (e : m.r[i]? = some l) : ∃ x o, σ[i]? = some x ∧ O[i]? = some o ∧ SlotR K A (bad A O Z) H x o l := by
  have hlt : i < m.r.length := (List.getElem?_eq_some_iff.mp e).1
  have h1 : i < σ.length := by rw [r.slen]; exact hlt
  have h2 : i < O.length := by rw [r.olen]; exact hlt
  exact ⟨_, _, List.getElem?_eq_getElem h1, List.getElem?_eq_getElem h2, r.slot i _ _ l (List.getElem?_eq_getElem h1) (List.getElem?_eq_getElem h2) e⟩
theorem own_set {i : Nat} {o : Option Addr} {a : Addr} (h : a ∈ own (O.set i o)) : o = some a ∨ a ∈ own O := by
  obtain ⟨j, hj⟩ := mem_own.mp h
  by_cases e : i = j
  · subst e
    by_cases hl : i < O.length
    · rw [List.getElem?_set_self hl] at hj
      exact .inl (Option.some.inj hj)
    · rw [List.getElem?_eq_none (by simpa using hl)] at hj; cases hj
  · rw [List.getElem?_set_ne e] at hj
    exact .inr (mem_own.mpr ⟨j, hj⟩)
theorem own_set_none {i : Nat} {a : Addr} (hi : O[i]? = some (some a)) (inj : ∀ (i j : Nat) (a : Addr), O[i]? = some (some a) → O[j]? = some (some a) → i = j) : a ∉ own (O.set i none) := fun h => by
  obtain ⟨j, hj⟩ := mem_own.mp h
  by_cases e : i = j
  · subst e
    have hl : i < O.length := (List.getElem?_eq_some_iff.mp hi).1
    rw [List.getElem?_set_self hl] at hj
    cases hj
  · rw [List.getElem?_set_ne e] at hj
    exact e (inj i j a hi hj)
theorem inj_set {i : Nat} {o : Option Addr} (inj : ∀ (i j : Nat) (a : Addr), O[i]? = some (some a) → O[j]? = some (some a) → i = j) (ho : ∀ a, o = some a → a ∉ own O) :
    ∀ (j k : Nat) (a : Addr), (O.set i o)[j]? = some (some a) → (O.set i o)[k]? = some (some a) → j = k := by
  intro j k a h1 h2
  have look : ∀ {l : Nat}, (O.set i o)[l]? = some (some a) → (l = i ∧ o = some a) ∨ O[l]? = some (some a) := fun {l} h => by
    by_cases e : i = l
    · subst e
      by_cases hl : i < O.length
      · rw [List.getElem?_set_self hl] at h
        exact .inl ⟨rfl, Option.some.inj h⟩
      · rw [List.getElem?_eq_none (by simpa using hl)] at h; cases h
    · rw [List.getElem?_set_ne e] at h
      exact .inr h
  rcases look h1 with ⟨e1, x1⟩ | x1
  · rcases look h2 with ⟨e2, x2⟩ | x2
    · rw [e1, e2]
    · exact absurd (mem_own.mpr ⟨k, x2⟩) (ho a x1)
  · rcases look h2 with ⟨e2, x2⟩ | x2
    · exact absurd (mem_own.mpr ⟨j, x1⟩) (ho a x2)
    · exact inj j k a x1 x2
/-- the i-th slot is turned: its value, its place -/
theorem RS.turn (r : RS K Z A O H σ m) {i : Nat} {x : Option V} {o : Option Addr} {l : Sl} (c : Carry A A (bad A O Z) (bad A (O.set i o) Z) H H') (S' : Store)
    (hk : ∀ j a xs, j ≠ i → O[j]? = some (some a) → H a = some (.lst xs) → H' a = some (.lst xs))
    (hs : Sim K A (bad A (O.set i o) Z) S' H') (hx : SlotR K A (bad A (O.set i o) Z) H' x o l) (inj : ∀ a, o = some a → a ∉ own (O.set i none)) (ap : ∀ a, o = some a → a ∉ A ∧ a ∉ Z) (hz : ∀ a, H' a = none → H a = none) :
    RS K Z A (O.set i o) H' (σ.set i x) ⟨m.r.set i l, S'⟩ := by
  refine ⟨hs, by simp [r.slen], by simp [r.olen], fun j y p q e1 e2 e3 => ?_, ?_, fun a ha => ?_, fun a ha e => r.zin a ha (hz a e)⟩
  · by_cases e : i = j
    · subst e
      have hlt : i < m.r.length := by have := (List.getElem?_eq_some_iff.mp e3).1; simpa using this
      have h1 : i < σ.length := by rw [r.slen]; exact hlt
      have h2 : i < O.length := by rw [r.olen]; exact hlt
      rw [List.getElem?_set_self h1] at e1
      rw [List.getElem?_set_self h2] at e2
      rw [List.getElem?_set_self hlt] at e3
      cases e1; cases e2; cases e3
      exact hx
    · rw [List.getElem?_set_ne e] at e1 e2
      have e3' : m.r[j]? = some q := by rw [← e3]; exact (List.getElem?_set_ne e).symm
      exact (r.slot j y p q e1 e2 e3').carry c fun a xs ea e5 => hk j a xs (Ne.symm e) (by rw [e2, ea]) e5
  · have e : O.set i o = (O.set i none).set i o := by rw [List.set_set]
    rw [e]
    refine inj_set (inj_set r.inj fun a h => nomatch h) inj
  · rcases own_set ha with z | z
    · exact ap a z
    · exact r.apart a z
theorem Sim.less {S : Store} (s : Sim K A B S H) (c : Carry A A B B' H H) : Sim K A B' S H := ⟨s.len, s.nd, fun n o e => by
  obtain ⟨a, ea, q⟩ := s.obj n o e
  exact ⟨a, ea, q.carry c fun _ e => e⟩⟩
theorem Sim.upd {S : Store} {p : Addr} {o : HO} (s : Sim K A B S H) (c : Carry A A B B' H (upd H p o)) (hp : p ∉ A) : Sim K A B' S (upd H p o) := ⟨s.len, s.nd, fun n o e => by
  obtain ⟨a, ea, q⟩ := s.obj n o e
  refine ⟨a, ea, q.carry c fun _ e => ?_⟩
  rw [upd_ne (fun z => hp (by rw [← z]; exact List.mem_of_getElem? ea))]
  exact e⟩
theorem bad_set {i : Nat} {o : Option Addr} {a : Addr} (h : a ∈ bad A (O.set i o) Z) : a ∈ bad A O Z ∨ o = some a := by
  rcases mem_bad.mp h with z | z | z
  · exact .inl (mem_bad.mpr (.inl z))
  · rcases own_set z with q | q
    · exact .inr q
    · exact .inl (mem_bad.mpr (.inr (.inl q)))
  · exact .inl (mem_bad.mpr (.inr (.inr z)))
theorem bad_set_none {i : Nat} {a : Addr} (h : a ∈ bad A (O.set i none) Z) : a ∈ bad A O Z := by
  rcases bad_set h with z | z
  · exact z
  · cases z
/-- a slot takes a value -/
theorem RS.setVal (r : RS K Z A O H σ m) (i : Nat) {v : V} {d : D} (h : Rep K A (bad A O Z) H v d) : RS K Z A (O.set i none) H (σ.set i (some v)) ⟨m.r.set i (.val d), m.S⟩ := by
  have c : Carry A A (bad A O Z) (bad A (O.set i none) Z) H H := .less fun _ z => bad_set_none z
  exact r.turn c m.S (fun _ _ _ _ _ e => e) (r.sim.less c) ⟨rfl, v, rfl, h.carry c⟩ (fun _ e => nomatch e) (fun _ e => nomatch e) fun _ e => e
/-- a slot takes nothing -/
theorem RS.setUn (r : RS K Z A O H σ m) (i : Nat) (x : Option V) : RS K Z A (O.set i none) H (σ.set i x) ⟨m.r.set i .un, m.S⟩ := by
  have c : Carry A A (bad A O Z) (bad A (O.set i none) Z) H H := .less fun _ z => bad_set_none z
  exact r.turn c m.S (fun _ _ _ _ _ e => e) (r.sim.less c) rfl (fun _ e => nomatch e) (fun _ e => nomatch e) fun _ e => e
/-- a slot takes a new list of its own -/
theorem RS.setOwn (r : RS K Z A O H σ m) (i : Nat) {p : Addr} {xs : List V} {ds : List D} (hp : H p = none) (h : Reps K A (bad A O Z) H xs ds) :
    RS K Z A (O.set i (some p)) (upd H p (.lst xs)) (σ.set i (some (.ref p))) ⟨m.r.set i (.own ds), m.S⟩ := by
  have nb := r.notBad hp
  have c : Carry A A (bad A O Z) (bad A (O.set i (some p)) Z) H (L2.upd H p (.lst xs)) := .grow (fun a z => by
    rcases bad_set z with q | q
    · exact .inl q
    · cases q; exact .inr hp) (upd_grow hp)
  refine r.turn c m.S (fun _ a _ _ _ e => upd_grow hp a _ e) (r.sim.upd c fun z => nb (mem_bad.mpr (.inl z))) ⟨p, xs, rfl, rfl, upd_same, h.carry c⟩ (fun a e z => ?_) (fun a e => ?_) fun a e => ?_
  · cases e
    rcases own_set z with q | q
    · cases q
    · exact nb (mem_bad.mpr (.inr (.inl q)))
  · cases e
    exact ⟨fun z => nb (mem_bad.mpr (.inl z)), fun z => nb (mem_bad.mpr (.inr (.inr z)))⟩
  · cases q : H a with
    | none => rfl
    | some o => rw [upd_grow hp a o q] at e; cases e
/-- a slot's own list becomes a value -/
theorem set_get {α : Type} {l : List α} {i : Nat} {x : α} (h : l[i]? = some x) : l.set i x = l := by
  apply List.ext_getElem?
  intro j
  by_cases e : i = j
  · subst e
    rw [List.getElem?_set_self (List.getElem?_eq_some_iff.mp h).1, h]
  · rw [List.getElem?_set_ne e]
theorem RS.freeze (r : RS K Z A O H σ m) {i : Nat} {ds : List D} (e : m.r[i]? = some (.own ds)) : ∃ v, σ[i]? = some (some v) ∧ RS K Z A (O.set i none) H σ ⟨m.r.set i (.val (.lst ds)), m.S⟩ ∧ Rep K A (bad A (O.set i none) Z) H v (.lst ds) := by
  obtain ⟨x, o, e1, e2, a, xs, rfl, rfl, e3, q⟩ := r.at e
  have c : Carry A A (bad A O Z) (bad A (O.set i none) Z) H H := .less fun _ z => bad_set_none z
  have hp : Rep K A (bad A (O.set i none) Z) H (.ref a) (.lst ds) := .lst ⟨e3, fun z => by
    have ap := r.apart a (mem_own.mpr ⟨i, e2⟩)
    rcases mem_bad.mp z with z | z | z
    · exact ap.1 z
    · exact own_set_none e2 r.inj z
    · exact ap.2 z⟩ (q.carry c)
  refine ⟨.ref a, e1, ?_, hp⟩
  have h := r.turn (x := some (.ref a)) (l := .val (.lst ds)) c m.S (fun _ _ _ _ _ e => e) (r.sim.less c) ⟨rfl, _, rfl, hp⟩ (fun _ e => nomatch e) (fun _ e => nomatch e) fun _ e => e
  rw [set_get e1] at h
  exact h
theorem Ev.set_none {i : Nat} : Ev A O H A (O.set i none) H := ⟨⟨[], (List.append_nil A).symm, fun _ h => nomatch h⟩, fun a h => .inl (by
  rcases own_set h with z | z
  · cases z
  · exact z), fun _ _ _ _ e => e, fun _ e => e⟩
theorem Ev.set_own {i : Nat} {p : Addr} {o : HO} (hp : H p = none) : Ev A O H A (O.set i (some p)) (upd H p o) := ⟨⟨[], (List.append_nil A).symm, fun _ h => nomatch h⟩, fun a h => (by
  rcases own_set h with z | z
  · cases z; exact .inr hp
  · exact .inl z), fun a u _ _ e => upd_grow hp a u e, fun a e => by
    cases q : H a with
    | none => rfl
    | some u => rw [upd_grow hp a u q] at e; cases e⟩
/-- a slot's own list is changed -/
theorem RS.putOwn (r : RS K Z A O H σ m) {i : Nat} {ds es : List D} {ys : List V} (e : m.r[i]? = some (.own ds)) {a : Addr} (ha : O[i]? = some (some a)) (h : Reps K A (bad A O Z) H ys es) :
    RS K Z A O (upd H a (.lst ys)) σ ⟨m.r.set i (.own es), m.S⟩ := by
  obtain ⟨x, o, e1, e2, a', xs, rfl, rfl, e3, q⟩ := r.at e
  rw [ha] at e2
  cases e2
  have ap := r.apart a (mem_own.mpr ⟨i, ha⟩)
  have eO : O.set i (some a) = O := set_get ha
  have c : Carry A A (bad A O Z) (bad A (O.set i (some a)) Z) H (L2.upd H a (.lst ys)) := by
    rw [eO]
    exact ⟨fun _ _ e => e, fun b o hb e => by
      rw [upd_ne (fun z => hb (by rw [z]; exact mem_bad.mpr (.inr (.inl (mem_own.mpr ⟨i, ha⟩)))))]
      exact e, fun _ z => .inl z⟩
  have g := r.turn (x := some (.ref a)) (l := .own es) c m.S (fun j b zs hj ej ez => by
      rw [upd_ne (fun z => hj (r.inj j i a (by rw [← z]; exact ej) ha))]
      exact ez) (r.sim.upd c ap.1) ⟨a, ys, rfl, rfl, upd_same, h.carry c⟩ (fun b eb => by cases eb; exact own_set_none ha r.inj) (fun b eb => by cases eb; exact ap) (fun b eb => by
      by_cases z : b = a
      · subst z; rw [upd_same] at eb; cases eb
      · rw [upd_ne z] at eb; exact eb)
  rw [eO, set_get e1] at g
  exact g
theorem Ev.put {a : Addr} {o u : HO} (h : a ∈ A ∨ a ∈ Wd.own O) (ha : H a = some u) : Ev A O H A O (upd H a o) := ⟨⟨[], (List.append_nil A).symm, fun _ h => nomatch h⟩, fun _ h => .inl h, fun b v h1 h2 e => by
  rw [upd_ne (fun z => by subst z; rcases h with q | q; exact h1 q; exact h2 q)]
  exact e, fun b e => by
  by_cases z : b = a
  · subst z; rw [upd_same] at e; cases e
  · rw [upd_ne z] at e; exact e⟩
/-- a list of the store is changed -/
theorem RS.putLoc (r : RS K Z A O H σ m) {n : Nat} {ds es : List D} {ys : List V} (e : m.S[n]? = some (.lst ds)) {a : Addr} (ha : A[n]? = some a) (h : Reps K A (bad A O Z) H ys es) :
    RS K Z A O (upd H a (.lst ys)) σ ⟨m.r, m.S.set n (.lst es)⟩ := by
  have hA : a ∈ A := List.mem_of_getElem? ha
  have c : Carry A A (bad A O Z) (bad A O Z) H (L2.upd H a (.lst ys)) := ⟨fun _ _ e => e, fun b o hb e => by
      rw [upd_ne (fun z => hb (by rw [z]; exact mem_bad.mpr (.inl hA)))]
      exact e, fun _ z => .inl z⟩
  refine ⟨⟨by simp [r.sim.len], r.sim.nd, fun k o ek => ?_⟩, r.slen, r.olen, fun i x o l e1 e2 e3 => (r.slot i x o l e1 e2 e3).carry c fun b xs eo eb => ?_, r.inj, r.apart, fun b hb eb => r.zin b hb ?_⟩
  · by_cases z : n = k
    · subst z
      have hl : n < m.S.length := (List.getElem?_eq_some_iff.mp e).1
      have ek' : (m.S.set n (.lst es))[n]? = some o := ek
      rw [List.getElem?_set_self hl] at ek'
      cases ek'
      exact ⟨a, ha, ys, upd_same, h.carry c⟩
    · have ek' : (m.S.set n (.lst es))[k]? = some o := ek
      rw [List.getElem?_set_ne z] at ek'
      obtain ⟨b, eb, q⟩ := r.sim.obj k o ek'
      refine ⟨b, eb, q.carry c fun xs ex => ?_⟩
      rw [upd_ne (fun y => z ((List.getElem?_inj (List.getElem?_eq_some_iff.mp ha).1 r.sim.nd).mp (by rw [ha, eb, y])))]
      exact ex
  · rw [upd_ne (fun y => (r.apart b (mem_own.mpr ⟨i, by rw [e2, eo]⟩)).1 (by rw [y]; exact hA))]
    exact eb
  · by_cases z : b = a
    · subst z; rw [upd_same] at eb; cases eb
    · rw [upd_ne z] at eb; exact eb
/-- a new list goes to the store -/
theorem RS.newLoc (r : RS K Z A O H σ m) {p : Addr} {xs : List V} {ds : List D} (hp : H p = none) (h : Reps K A (bad A O Z) H xs ds) :
    Ev A O H (A ++ [p]) O (upd H p (.lst xs)) ∧ RS K Z (A ++ [p]) O (upd H p (.lst xs)) σ ⟨m.r, m.S ++ [.lst ds]⟩ ∧ Rep K (A ++ [p]) (bad (A ++ [p]) O Z) (upd H p (.lst xs)) (.ref p) (.loc m.S.length) := by
  have nb := r.notBad hp
  have ev : Ev A O H (A ++ [p]) O (L2.upd H p (.lst xs)) := ⟨⟨[p], rfl, fun a ha => by rw [List.mem_singleton.mp ha]; exact hp⟩, fun _ h => .inl h, fun a u _ _ e => upd_grow hp a u e, fun a e => by
    cases q : H a with
    | none => rfl
    | some u => rw [upd_grow hp a u q] at e; cases e⟩
  have c : Carry A (A ++ [p]) (bad A O Z) (bad (A ++ [p]) O Z) H (L2.upd H p (.lst xs)) := ev.carry
  have hA : (A ++ [p])[m.S.length]? = some p := by rw [← r.sim.len]; simp
  refine ⟨ev, ⟨⟨by simp [r.sim.len], ?_, fun k o ek => ?_⟩, r.slen, r.olen, fun i x o l e1 e2 e3 => (r.slot i x o l e1 e2 e3).carry c fun b xs eo eb => upd_grow hp b _ eb, r.inj, fun a ha => ?_, fun b hb eb => r.zin b hb (ev.dom b eb)⟩, .loc hA⟩
  · rw [List.nodup_append]
    exact ⟨r.sim.nd, by simp, fun a ha b hb e => nb (mem_bad.mpr (.inl (by rw [← List.mem_singleton.mp hb, ← e]; exact ha)))⟩
  · by_cases hk : k < m.S.length
    · have ek' : (m.S ++ [.lst ds])[k]? = some o := ek
      rw [List.getElem?_append_left hk] at ek'
      obtain ⟨b, eb, q⟩ := r.sim.obj k o ek'
      exact ⟨b, c.loc k b eb, q.carry c fun xs ex => upd_grow hp b _ ex⟩
    · have ek' : (m.S ++ [.lst ds])[k]? = some o := ek
      have hk2 : k = m.S.length := by
        have := (List.getElem?_eq_some_iff.mp ek').1
        simp at this
        omega
      subst hk2
      simp at ek'
      subst ek'
      exact ⟨p, hA, xs, upd_same, h.carry c⟩
  · refine ⟨fun z => ?_, (r.apart a ha).2⟩
    rcases List.mem_append.mp z with q | q
    · exact (r.apart a ha).1 q
    · exact nb (mem_bad.mpr (.inr (.inl (by rw [← List.mem_singleton.mp q]; exact ha))))
end
end Wd

namespace Wd
open PySem PySem.Spec PyProof.Rows L2

/-! ### results -/
inductive Res (α : Type) where
  | ok (a : α) (m : Ms) | exc (x : Ex) (m : Ms) | stuck
def Res.bind {α β : Type} (r : Res α) (k : α → Ms → Res β) : Res β := match r with
  | .ok a m => k a m
  | .exc x m => .exc x m
  | .stuck => .stuck
abbrev Rl (β α : Type) := List Addr → List Addr → Hp → β → α → Prop
/-- an exception stands for x -/
def ExR (K : PySem.W.Frag) (mg : Str → Option Value) (A B : List Addr) (H : Hp) (cls : Value) (dd : Option Addr) (x : Ex) : Prop :=
  ∃ C : Addr, mg x.c = some (.ref C) ∧ cls = .ref C ∧ ((x.fs = [] ∧ dd = none) ∨ ∃ (d : Addr) (f : Str) (v : V) (e : D), x.fs = [(f, e)] ∧ dd = some d ∧ H d = some (.xd [(f, v)]) ∧ d ∉ B ∧ Rep K A B H v e)
/-- what a result asks -/
def RP {α β : Type} (K : PySem.W.Frag) (mg : Str → Option Value) (W : WX) (rel : Rl β α) (Z : List Addr) (σ : L2.St) (A : List Addr) (O : Ow) (H : Hp) (Q : β → Hp → Prop) : Res α → Prop
  | .ok a m => ∀ v A' O' H', Ev A O H A' O' H' → RS K Z A' O' H' σ m → rel A' (bad A' O' Z) H' v a → Q v H'
  | .exc x m => ∀ cls dd A' O' H', Ev A O H A' O' H' → RS K Z A' O' H' σ m → ExR K mg A' (bad A' O' Z) H' cls dd x → W cls dd σ H'
  | .stuck => False
section
variable {α β γ δ : Type} {K : PySem.W.Frag} {mg : Str → Option Value} {W : WX} {rel : Rl β α} {rel' : Rl δ γ} {Z A A' : List Addr} {σ : L2.St} {O O' : Ow} {H H' : Hp} {Q Q' : β → Hp → Prop} {R : δ → Hp → Prop} {r : Res α} {k : α → Ms → Res γ}
theorem RP.ev (h : RP K mg W rel Z σ A O H Q r) (e : Ev A O H A' O' H') : RP K mg W rel Z σ A' O' H' Q r := by
  cases r with
  | ok a m => exact fun v A2 O2 H2 e2 s q => h v A2 O2 H2 (e.trans e2) s q
  | exc x m => exact fun c d A2 O2 H2 e2 s q => h c d A2 O2 H2 (e.trans e2) s q
  | stuck => exact h
theorem RP.bind (h : RP K mg W rel' Z σ A O H R (r.bind k)) (hQ : ∀ v a m1 A1 O1 H1, Ev A O H A1 O1 H1 → RS K Z A1 O1 H1 σ m1 → rel A1 (bad A1 O1 Z) H1 v a → RP K mg W rel' Z σ A1 O1 H1 R (k a m1) → Q v H1) : RP K mg W rel Z σ A O H Q r := by
  cases r with
  | ok a m => exact fun v A2 O2 H2 e2 s q => hQ v a m A2 O2 H2 e2 s q (RP.ev h e2)
  | exc x m => exact h
  | stuck => exact h
theorem RP.ret {a : α} {m : Ms} {v : β} (h : RP K mg W rel Z σ A O H Q (.ok a m)) (s : RS K Z A O H σ m) (q : rel A (bad A O Z) H v a) : Q v H := h v A O H .refl s q
theorem RP.retE {a : α} {m : Ms} {v : β} (h : RP K mg W rel Z σ A O H Q (.ok a m)) (e : Ev A O H A' O' H') (s : RS K Z A' O' H' σ m) (q : rel A' (bad A' O' Z) H' v a) : Q v H' := h v A' O' H' e s q
theorem RP.imp (h : RP K mg W rel Z σ A O H Q r) (hQ : ∀ v H', Q v H' → Q' v H') : RP K mg W rel Z σ A O H Q' r := by
  cases r with
  | ok a m => exact fun v A2 O2 H2 e2 s q => hQ _ _ (h v A2 O2 H2 e2 s q)
  | exc x m => exact h
  | stuck => exact h
end
/-! ### the judgements -/
abbrev rD (K : PySem.W.Frag) : Rl V D := fun A B H v d => Rep K A B H v d
abbrev rDs (K : PySem.W.Frag) : Rl (List V) (List D) := fun A B H v d => Reps K A B H v d
abbrev rB : Rl Bool Bool := fun _ _ _ b c => b = c
abbrev rO : Rl (Option Int) (Option Int) := fun _ _ _ b c => b = c
def rSq (K : PySem.W.Frag) : Rl V (List D) := fun A B H v ds => ∃ (a : Addr) (xs : List V), v = .ref a ∧ (SqL K H a xs ∨ SqT K H a xs) ∧ Reps K A B H xs ds
def tG {α β : Type} (K : PySem.W.Frag) (mg : Str → Option Value) (W : WX) (rel : Rl β α) (f : Ms → Res α) : L2.St → Hp → (β → Hp → Prop) → Prop :=
  fun σ H Q => ∃ Z A O m, RS K Z A O H σ m ∧ RP K mg W rel Z σ A O H Q (f m)
/-- a list that is new -/
def tN (K : PySem.W.Frag) (mg : Str → Option Value) (W : WX) (f : Ms → Res (List D)) : TE :=
  fun σ H Q => tG K mg W (rDs K) f σ H fun xs H' => ∀ p, H' p = none → Q (.ref p) (upd H' p (.lst xs))
abbrev DE (X : Cx) (W : WX) (e : Expr) (f : Ms → Res D) : Prop := PE X e (tG X.K X.mg W (rD X.K) f)
abbrev DQ (X : Cx) (W : WX) (e : Expr) (f : Ms → Res (List D)) : Prop := PE X e (tG X.K X.mg W (rSq X.K) f)
abbrev DN (X : Cx) (W : WX) (e : Expr) (f : Ms → Res (List D)) : Prop := PE X e (tN X.K X.mg W f)
abbrev DT (X : Cx) (W : WX) (e : Expr) (f : Ms → Res Bool) : Prop := PT X e (tG X.K X.mg W rB f)
abbrev DW (X : Cx) (W : WX) (e : Expr) (f : Ms → Res Bool) : Prop := PW X e (tG X.K X.mg W rB f)
abbrev DA (X : Cx) (W : WX) (es : List Expr) (f : Ms → Res (List D)) : Prop := PA X es (tG X.K X.mg W (rDs X.K) f)
abbrev DO (X : Cx) (W : WX) (e : Option Expr) (f : Ms → Res (Option Int)) : Prop := PO X e (tG X.K X.mg W rO f)
section
variable {X : Cx} {W : WX} {e a b c : Expr} {es : List Expr} {pos : Pos}
theorem PE.imp {t t' : TE} (h : PE X e t) (k : ∀ σ H Q, t' σ H Q → t σ H Q) : PE X e t' := ⟨fun pins s σ H Q I q => h.run pins s σ H Q I (k σ H Q q)⟩
theorem PT.imp {t t' : TT} (h : PT X e t) (k : ∀ σ H Q, t' σ H Q → t σ H Q) : PT X e t' := ⟨fun pins s σ H Q I q => h.run pins s σ H Q I (k σ H Q q)⟩
theorem PW.imp {t t' : TT} (h : PW X e t) (k : ∀ σ H Q, t' σ H Q → t σ H Q) : PW X e t' := ⟨fun wh pins s σ H Q I q => h.run wh pins s σ H Q I (k σ H Q q)⟩
theorem PA.imp {t t' : TA} (h : PA X es t) (k : ∀ σ H Q, t' σ H Q → t σ H Q) : PA X es t' := ⟨fun pos pins s σ H Q I q => h.run pos pins s σ H Q I (k σ H Q q)⟩
theorem PO.imp {o : Option Expr} {t t' : TO} (h : PO X o t) (k : ∀ σ H Q, t' σ H Q → t σ H Q) : PO X o t' := ⟨fun pins s σ H Q I q => h.run pins s σ H Q I (k σ H Q q)⟩
end
end Wd

namespace Wd
open PySem PySem.Spec PyProof.Rows L2

theorem lim_le {n : Nat} (h : n ≤ 16777216) : n ≤ sizeLine := by rw [sizeLine_eq]; exact h
theorem lim_lt {n : Nat} (h : n < 16777216) : n < sizeLine := by rw [sizeLine_eq]; exact h
/-- a datum, or a list of the frame's own -/
def rW (K : PySem.W.Frag) : Rl V D := fun A B H v d => Rep K A B H v d ∨ ∃ ds a xs, d = .lst ds ∧ v = .ref a ∧ H a = some (.lst xs) ∧ Reps K A B H xs ds
abbrev DB (X : Cx) (W : WX) (e : Expr) (f : Ms → Res D) : Prop := PE X e (tG X.K X.mg W (rW X.K) f)
/-! ### names, constants -/
def eVar (i : Nat) (m : Ms) : Res D := match m.r[i]? with
  | some (.val d) => .ok d m
  | some (.own ds) => .ok (.lst ds) ⟨m.r.set i (.val (.lst ds)), m.S⟩
  | _ => .stuck
def eC (d : D) (m : Ms) : Res D := .ok d m
/-- the items of a datum -/
def itemsOf (d : D) (m : Ms) : Res (List D) := match d with
  | .tup ds => .ok ds m
  | .lst ds => .ok ds m
  | .ro ds => .ok ds m
  | .loc n => (match m.S[n]? with
    | some (.lst ds) => .ok ds m
    | none => .stuck)
  | _ => .stuck
/-- a name's value, its own list left as it is -/
def eBor (i : Nat) (m : Ms) : Res D := match m.r[i]? with
  | some (.val d) => .ok d m
  | some (.own ds) => .ok (.lst ds) m
  | _ => .stuck
def qOf (f : Ms → Res D) (m : Ms) : Res (List D) := (f m).bind itemsOf
def eNew (f : Ms → Res (List D)) (m : Ms) : Res D := (f m).bind fun ds m1 => .ok (.lst ds) m1
section
variable {K : PySem.W.Frag} {Z A : List Addr} {O : Ow} {H : Hp} {σ : L2.St} {m : Ms}
theorem items_sq {d : D} {v : V} {ds : List D} {m' : Ms} (s : RS K Z A O H σ m) (r : rW K A (bad A O Z) H v d) (e : itemsOf d m = .ok ds m') : m' = m ∧ rSq K A (bad A O Z) H v ds := by
  rcases r with r | ⟨es, a, xs, rfl, rfl, ex, rx⟩
  · cases r with
    | tup h1 h2 => cases e; exact ⟨rfl, _, _, rfl, .inr h1.sq, h2⟩
    | lst h1 h2 => cases e; exact ⟨rfl, _, _, rfl, .inl h1.sq, h2⟩
    | ro h1 h2 => cases e; exact ⟨rfl, _, _, rfl, .inl h1.sq, h2⟩
    | @loc a n h1 =>
      simp only [itemsOf] at e
      cases q : m.S[n]? with
      | none => rw [q] at e; cases e
      | some o =>
        rw [q] at e
        cases o with
        | lst es =>
          cases e
          obtain ⟨b, eb, xs, ex, rx⟩ := s.sim.obj n _ q
          rw [h1] at eb
          cases eb
          exact ⟨rfl, a, xs, rfl, .inl (.inl (.inl ex)), rx⟩
    | _ => cases e
  · cases e
    exact ⟨rfl, a, xs, rfl, .inl (.inl (.inl ex)), rx⟩
theorem items_exc {d : D} {x : Ex} {m' : Ms} (e : itemsOf d m = .exc x m') : False := by
  unfold itemsOf at e
  split at e <;> try cases e
  split at e <;> cases e
end
section
variable {X : Cx} {W : WX} {e a b c : Expr} {es : List Expr} {pos : Pos} {f g : Ms → Res D}
theorem de_var (i : Nat) {x : Str} (hN : X.N[i]? = some x := by rfl) (hv : Vis X.env.scope x := by first | exact Or.inl rfl | exact Or.inr (Or.inl rfl) | exact Or.inr (Or.inr rfl)) (hd : (x == ("__debug__" : Str)) = false := by decide)
    (hcd : (x == ("__classdict__" : Str)) = false := by decide) : DE X W (.Name x pos) (eVar i) := by
  refine PE.imp (pv i hN hv hd hcd) fun σ H Q ⟨Z, A, O, m, s, q⟩ => ?_
  cases e : m.r[i]? with
  | none => simp only [eVar, e] at q; exact q.elim
  | some l =>
    cases l with
    | un => simp only [eVar, e] at q; exact q.elim
    | val d =>
      simp only [eVar, e] at q
      obtain ⟨x', o, e1, e2, e3, v, rfl, r⟩ := s.at e
      exact ⟨v, e1, q.ret s r⟩
    | own ds =>
      simp only [eVar, e] at q
      obtain ⟨v, e1, s', r⟩ := s.freeze e
      exact ⟨v, e1, q.retE .set_none s' r⟩
theorem db_var (i : Nat) {x : Str} (hN : X.N[i]? = some x := by rfl) (hv : Vis X.env.scope x := by first | exact Or.inl rfl | exact Or.inr (Or.inl rfl) | exact Or.inr (Or.inr rfl)) (hd : (x == ("__debug__" : Str)) = false := by decide)
    (hcd : (x == ("__classdict__" : Str)) = false := by decide) : DB X W (.Name x pos) (eBor i) := by
  refine PE.imp (pv i hN hv hd hcd) fun σ H Q ⟨Z, A, O, m, s, q⟩ => ?_
  cases e : m.r[i]? with
  | none => simp only [eBor, e] at q; exact q.elim
  | some l =>
    cases l with
    | un => simp only [eBor, e] at q; exact q.elim
    | val d =>
      simp only [eBor, e] at q
      obtain ⟨x', o, e1, e2, e3, v, rfl, r⟩ := s.at e
      exact ⟨v, e1, q.ret s (.inl r)⟩
    | own ds =>
      simp only [eBor, e] at q
      obtain ⟨x', o, e1, e2, a, xs, rfl, rfl, e3, r⟩ := s.at e
      exact ⟨_, e1, q.ret s (.inr ⟨ds, a, xs, rfl, rfl, e3, r⟩)⟩
theorem db_of (h : DE X W e f) : DB X W e f := PE.imp h fun σ H Q ⟨Z, A, O, m, s, q⟩ => ⟨Z, A, O, m, s, by
  cases y : f m with
  | ok d m1 => rw [y] at q; exact fun v A1 O1 H1 ev s1 r => q v A1 O1 H1 ev s1 (.inl r)
  | exc x m' => rw [y] at q; exact q
  | stuck => rw [y] at q; exact q⟩
theorem dq_of (h : DB X W e f) : DQ X W e (qOf f) := by
  refine PE.imp h fun σ H Q ⟨Z, A, O, m, s, q⟩ => ⟨Z, A, O, m, s, RP.bind q fun v d m1 A1 O1 H1 ev s1 r q1 => ?_⟩
  cases y : itemsOf d m1 with
  | ok ds m' =>
    rw [y] at q1
    obtain ⟨rfl, z⟩ := items_sq s1 r y
    exact q1.ret s1 z
  | exc x m' => exact (items_exc y).elim
  | stuck => rw [y] at q1; exact q1.elim
theorem de_new {f : Ms → Res (List D)} (h : DN X W e f) : DE X W e (eNew f) := by
  refine PE.imp h fun σ H Q ⟨Z, A, O, m, s, q⟩ => ⟨Z, A, O, m, s, RP.bind q fun xs ds m1 A1 O1 H1 ev s1 r q1 p hp => ?_⟩
  exact q1.retE (.new hp) (s1.new hp) (Rep.newLst s1 hp r)
theorem dq_new {f : Ms → Res (List D)} (h : DN X W e f) : DQ X W e f := by
  refine PE.imp h fun σ H Q ⟨Z, A, O, m, s, q⟩ => ⟨Z, A, O, m, s, ?_⟩
  cases y : f m with
  | ok ds m1 =>
    rw [y] at q
    exact fun xs A1 O1 H1 ev s1 r p hp => q _ A1 O1 _ (ev.trans (.new hp)) (s1.new hp) ⟨p, xs, rfl, .inl (.inl (.inl upd_same)), r.carry (.grow (fun _ h => .inl h) (upd_grow hp))⟩
  | exc x m' => rw [y] at q; exact q
  | stuck => rw [y] at q; exact q
theorem de_c {d : D} {v : V} (h : PE X e (tC v)) (hr : ∀ A B H, Rep X.K A B H v d) : DE X W e (eC d) :=
  PE.imp h fun σ H Q ⟨Z, A, O, m, s, q⟩ => q.ret s (hr _ _ _)
theorem de_int {i : Int} {j} : DE X W (.Constant (.int i) j pos) (eC (.int i)) := de_c pe_int fun _ _ _ => .int i
theorem de_bl {b : Bool} {j} : DE X W (.Constant (.bool b) j pos) (eC (.bl b)) := de_c pe_bl fun _ _ _ => .bl b
theorem de_non {j} : DE X W (.Constant .none j pos) (eC .non) := de_c pe_non fun _ _ _ => .non
theorem de_str {x : Str} {j} : DE X W (.Constant (.str x) j pos) (eC (.str x)) := de_c pe_str fun _ _ _ => .str x
/-- a module's constant -/
theorem de_glob {x : Str} {v : V} {u : Value} {d : D} (hm : X.mg x = some u) (r : RelV v u) (hr : ∀ A B H, Rep X.K A B H v d) (hg : Gl X x := by rfl) (hd : (x == ("__debug__" : Str)) = false := by decide) : DE X W (.Name x pos) (eC d) :=
  de_c (pe_glob hg hm r hd) hr

/-! ### two operands -/
def BinS (K : PySem.W.Frag) (mg : Str → Option Value) (W : WX) (r : R2) (g : D → D → Ms → Res D) : Prop :=
  ∀ Z A O H σ m x y v w Q, RS K Z A O H σ m → Rep K A (bad A O Z) H v x → Rep K A (bad A O Z) H w y → RP K mg W (rD K) Z σ A O H Q (g x y m) → r v w H Q
def e2 (g : D → D → Ms → Res D) (f f' : Ms → Res D) (m : Ms) : Res D := (f m).bind fun x m1 => (f' m1).bind fun y m2 => g x y m2
theorem de_bin {op : Operator} {r : R2} {g : D → D → Ms → Res D} (ho : OpR X (binaryOp op) r) (hr : BinS X.K X.mg W r g) (ha : DE X W a f) {f' : Ms → Res D} (hb : DE X W b f') : DE X W (.BinOp a op b pos) (e2 g f f') := by
  refine PE.imp (pe_op ho ha hb) fun σ H Q ⟨Z, A, O, m, s, q⟩ => ⟨Z, A, O, m, s, RP.bind q fun v x m1 A1 O1 H1 ev1 s1 r1 q1 => ⟨Z, A1, O1, m1, s1, RP.bind q1 fun w y m2 A2 O2 H2 ev2 s2 r2 q2 => ?_⟩⟩
  exact hr Z A2 O2 H2 σ m2 x y v w Q s2 (r1.carry ev2.carry) r2 q2
theorem de_cmp {op : CmpOp} {r : R2} {g : D → D → Ms → Res D} (ho : OpR X (compareOp op) r) (hr : BinS X.K X.mg W r g) (ha : DE X W a f) {f' : Ms → Res D} (hb : DE X W b f')
    (hm : behindInMarks op b = false := by first | exact nomark _ | rfl) : DE X W (.Compare a [op] [b] pos) (e2 g f f') := by
  refine PE.imp (pe_cmpR ho ha hb hm) fun σ H Q ⟨Z, A, O, m, s, q⟩ => ⟨Z, A, O, m, s, RP.bind q fun v x m1 A1 O1 H1 ev1 s1 r1 q1 => ⟨Z, A1, O1, m1, s1, RP.bind q1 fun w y m2 A2 O2 H2 ev2 s2 r2 q2 => ?_⟩⟩
  exact hr Z A2 O2 H2 σ m2 x y v w Q s2 (r1.carry ev2.carry) r2 q2
/-- a datum as a test -/
def asB (d : D) (m : Ms) : Res Bool := match d with
  | .bl b => .ok b m
  | _ => .stuck
def tOf (f : Ms → Res D) (m : Ms) : Res Bool := (f m).bind asB
theorem asB_ok {K : PySem.W.Frag} {mg : Str → Option Value} {Z A : List Addr} {O : Ow} {H : Hp} {σ : L2.St} {m : Ms} {d : D} {v : V} {Q : Bool → Hp → Prop} (s : RS K Z A O H σ m) (r : Rep K A (bad A O Z) H v d) (q : RP K mg W rB Z σ A O H Q (asB d m)) : ∃ k, v = .bl k ∧ Q k H := by
  cases r with
  | bl b => exact ⟨b, rfl, q.ret s rfl⟩
  | _ => exact q.elim
theorem dt_cmp {op : CmpOp} {r : R2} {g : D → D → Ms → Res D} (ho : OpR X (compareOp op) r) (hr : BinS X.K X.mg W r g) (ha : DE X W a f) {f' : Ms → Res D} (hb : DE X W b f')
    (hm : behindInMarks op b = false := by first | exact nomark _ | rfl) : DT X W (.Compare a [op] [b] pos) (tOf (e2 g f f')) := by
  refine PT.imp (pt_cmpR ho ha hb hm) fun σ H Q ⟨Z, A, O, m, s, q⟩ => ⟨Z, A, O, m, s, ?_⟩
  have q' : RP X.K X.mg W rB Z σ A O H Q ((f m).bind fun x m1 => ((f' m1).bind fun y m2 => g x y m2).bind asB) := by
    simp only [tOf, e2] at q
    cases hf : f m <;> rw [hf] at q <;> exact q
  refine RP.bind q' fun v x m1 A1 O1 H1 ev1 s1 r1 q1 => ⟨Z, A1, O1, m1, s1, ?_⟩
  have q1' : RP X.K X.mg W rB Z σ A1 O1 H1 Q ((f' m1).bind fun y m2 => (g x y m2).bind asB) := by
    cases hf : f' m1 <;> rw [hf] at q1 <;> exact q1
  refine RP.bind q1' fun w y m2 A2 O2 H2 ev2 s2 r2 q2 => ?_
  exact hr Z A2 O2 H2 σ m2 x y v w _ s2 (r1.carry ev2.carry) r2 (RP.bind q2 fun u z m3 A3 O3 H3 ev3 s3 r3 q3 => asB_ok s3 r3 q3)
theorem dt_val (h : DE X W e f) (he : ∀ whole, isTrue e X.env whole = (do let v ← whole; standAt e.pos; holding [v] (truthy v)) := by intro _; rfl) : DT X W e (tOf f) := by
  refine PT.imp (pt_val h he) fun σ H Q ⟨Z, A, O, m, s, q⟩ => ⟨Z, A, O, m, s, RP.bind q fun v x m1 A1 O1 H1 ev1 s1 r1 q1 => asB_ok s1 r1 q1⟩

/-! ### the operators -/
def oAdd (x y : D) (m : Ms) : Res D := match x, y with
  | .int i, .int j => .ok (.int (i + j)) m
  | .str i, .str j => if i.length + j.length ≤ 16777216 then .ok (.str (i ++ j)) m else .stuck
  | .tup xs, .tup ys => if xs.length + ys.length ≤ 16777216 then .ok (.tup (xs ++ ys)) m else .stuck
  | _, _ => .stuck
def oSub (x y : D) (m : Ms) : Res D := match x, y with
  | .int i, .int j => .ok (.int (i - j)) m
  | _, _ => .stuck
/-- one factor below 2 ^ 64 -/
def oMul (x y : D) (m : Ms) : Res D := match x, y with
  | .int i, .int j => if (-18446744073709551616 < i ∧ i < 18446744073709551616) ∨ (-18446744073709551616 < j ∧ j < 18446744073709551616) then .ok (.int (i * j)) m else .stuck
  | _, _ => .stuck
def oDiv (x y : D) (m : Ms) : Res D := match x, y with
  | .int i, .int j => if 0 < j ∧ j < 1073741824 then .ok (.int (i / j)) m else .stuck
  | _, _ => .stuck
def oMod (x y : D) (m : Ms) : Res D := match x, y with
  | .int i, .int j => if 0 < j then .ok (.int (i % j)) m else .stuck
  | _, _ => .stuck
def oPow (x y : D) (m : Ms) : Res D := match x, y with
  | .int i, .int j => if 0 ≤ j ∧ j ≤ 1000000 ∧ i.natAbs < 18446744073709551616 then .ok (.int (i ^ j.toNat)) m else .stuck
  | _, _ => .stuck
def oCmp (p : Int → Int → Bool) (x y : D) (m : Ms) : Res D := match x, y with
  | .int i, .int j => .ok (.bl (p i j)) m
  | _, _ => .stuck
abbrev oLt := oCmp fun i j => decide (i < j)
abbrev oLe := oCmp fun i j => decide (i ≤ j)
abbrev oGt := oCmp fun i j => decide (j < i)
abbrev oGe := oCmp fun i j => decide (j ≤ i)
/-- is None -/
def oIsN (neg : Bool) (x y : D) (m : Ms) : Res D := match y, x with
  | .non, .non => .ok (.bl (!neg)) m
  | .non, _ => .ok (.bl neg) m
  | _, _ => .stuck
section
variable {K : PySem.W.Frag} {mg : Str → Option Value}
theorem bs_int {C : Int → Int → Prop} {h : Int → Int → V} {g : D → D → Ms → Res D} (hg : ∀ x y m, (∃ i j d, x = .int i ∧ y = .int j ∧ C i j ∧ g x y m = .ok d m ∧ ∀ A B H, Rep K A B H (h i j) d) ∨ g x y m = .stuck) : BinS K mg W (rI C h) g := by
  intro Z A O H σ m x y v w Q s r1 r2 q
  rcases hg x y m with ⟨i, j, d, rfl, rfl, c, e, hr⟩ | e
  · rw [e] at q
    cases r1
    cases r2
    exact ⟨i, j, rfl, rfl, c, q.ret s (hr _ _ _)⟩
  · rw [e] at q; exact q.elim
theorem bs_int0 {h : Int → Int → V} {g : D → D → Ms → Res D} (hg : ∀ x y m, (∃ i j d, x = .int i ∧ y = .int j ∧ g x y m = .ok d m ∧ ∀ A B H, Rep K A B H (h i j) d) ∨ g x y m = .stuck) : BinS K mg W (rI0 h) g := by
  intro Z A O H σ m x y v w Q s r1 r2 q
  rcases hg x y m with ⟨i, j, d, rfl, rfl, e, hr⟩ | e
  · rw [e] at q
    cases r1
    cases r2
    exact ⟨i, j, rfl, rfl, q.ret s (hr _ _ _)⟩
  · rw [e] at q; exact q.elim
theorem BinS.or {r r' : R2} {g : D → D → Ms → Res D} (h : ∀ Z A O H σ m x y v w Q, RS K Z A O H σ m → Rep K A (bad A O Z) H v x → Rep K A (bad A O Z) H w y → RP K mg W (rD K) Z σ A O H Q (g x y m) → r v w H Q ∨ r' v w H Q) :
    BinS K mg W (fun x y H Q => r x y H Q ∨ r' x y H Q) g := h
end
section
abbrev rStrAdd : R2 := fun x y H Q => ∃ i j : Str, x = .str i ∧ y = .str j ∧ i.length + j.length ≤ sizeLine ∧ Q (.str (i ++ j)) H
theorem op_addD : OpR X (binaryOp .Add) (fun x y H Q => rI0 (fun i j => .int (i + j)) x y H Q ∨ (rStrAdd x y H Q ∨ rCatA X.K x y H Q)) := op_add.or (op_add_str.or op_catA)
theorem bs_add : BinS X.K X.mg W (fun x y H Q => rI0 (fun i j => .int (i + j)) x y H Q ∨ (rStrAdd x y H Q ∨ rCatA X.K x y H Q)) oAdd := by
  intro Z A O H σ m x y v w Q s r1 r2 q
  cases r1 with
  | int i =>
    cases r2 with
    | int j => exact .inl ⟨i, j, rfl, rfl, q.ret s (.int _)⟩
    | _ => exact q.elim
  | str i =>
    cases r2 with
    | str j =>
      by_cases h : i.length + j.length ≤ 16777216
      · simp only [oAdd, if_pos h] at q
        exact .inr (.inl ⟨i, j, rfl, rfl, lim_le h, q.ret s (.str _)⟩)
      · simp only [oAdd, if_neg h] at q
        exact q.elim
    | _ => exact q.elim
  | @tup a xs ds h1 h2 =>
    cases r2 with
    | @tup b ys es g1 g2 =>
      by_cases h : ds.length + es.length ≤ 16777216
      · simp only [oAdd, if_pos h] at q
        refine .inr (.inr ⟨a, b, xs, ys, rfl, rfl, h1.sq, g1.sq, by rw [h2.len, g2.len]; exact lim_le h, fun e => ?_, fun e e2 => ?_, fun _ _ p hp => ?_⟩)
        · subst e
          cases h2
          exact q.ret s (.tup g1 g2)
        · subst e2
          cases g2
          rw [List.append_nil] at q
          exact q.ret s (.tup h1 h2)
        · exact q.retE (.new hp) (s.new hp) (Rep.newTup s hp (h2.app g2))
      · simp only [oAdd, if_neg h] at q
        exact q.elim
    | _ => exact q.elim
  | _ => exact q.elim
theorem de_add {f' : Ms → Res D} (ha : DE X W a f) (hb : DE X W b f') : DE X W (.BinOp a .Add b pos) (e2 oAdd f f') := de_bin op_addD bs_add ha hb
theorem de_sub {f' : Ms → Res D} (ha : DE X W a f) (hb : DE X W b f') : DE X W (.BinOp a .Sub b pos) (e2 oSub f f') := by
  refine de_bin op_sub (bs_int0 fun x y m => ?_) ha hb
  unfold oSub
  split
  · exact .inl ⟨_, _, _, rfl, rfl, rfl, fun _ _ _ => .int _⟩
  · exact .inr rfl
theorem de_mul {f' : Ms → Res D} (ha : DE X W a f) (hb : DE X W b f') : DE X W (.BinOp a .Mult b pos) (e2 oMul f f') := by
  refine de_bin op_mul (bs_int fun x y m => ?_) ha hb
  unfold oMul
  split
  · split
    · exact .inl ⟨_, _, _, rfl, rfl, by unfold CMul; rename_i h; exact h, rfl, fun _ _ _ => .int _⟩
    · exact .inr rfl
  · exact .inr rfl
theorem de_div {f' : Ms → Res D} (ha : DE X W a f) (hb : DE X W b f') : DE X W (.BinOp a .FloorDiv b pos) (e2 oDiv f f') := by
  refine de_bin op_fdiv (bs_int fun x y m => ?_) ha hb
  unfold oDiv
  split
  · split
    · exact .inl ⟨_, _, _, rfl, rfl, by unfold CDiv; rename_i h; exact h, rfl, fun _ _ _ => .int _⟩
    · exact .inr rfl
  · exact .inr rfl
theorem de_mod {f' : Ms → Res D} (ha : DE X W a f) (hb : DE X W b f') : DE X W (.BinOp a .Mod b pos) (e2 oMod f f') := by
  refine de_bin op_mod (bs_int fun x y m => ?_) ha hb
  unfold oMod
  split
  · split
    · exact .inl ⟨_, _, _, rfl, rfl, by rename_i h; exact h, rfl, fun _ _ _ => .int _⟩
    · exact .inr rfl
  · exact .inr rfl
theorem de_pow {f' : Ms → Res D} (ha : DE X W a f) (hb : DE X W b f') : DE X W (.BinOp a .Pow b pos) (e2 oPow f f') := by
  refine de_bin op_pow (bs_int fun x y m => ?_) ha hb
  unfold oPow
  split
  · split
    · exact .inl ⟨_, _, _, rfl, rfl, by unfold CPow; rename_i h; exact h, rfl, fun _ _ _ => .int _⟩
    · exact .inr rfl
  · exact .inr rfl
theorem bs_cmp {p : Int → Int → Bool} : BinS X.K X.mg W (rI0 fun i j => .bl (p i j)) (oCmp p) := bs_int0 fun x y m => by
  unfold oCmp
  split
  · exact .inl ⟨_, _, _, rfl, rfl, rfl, fun _ _ _ => .bl _⟩
  · exact .inr rfl
theorem bs_isN {neg : Bool} : BinS X.K X.mg W (fun x y H Q => y = .non ∧ Q (.bl (if neg then !decide (x = .non) else decide (x = .non))) H) (oIsN neg) := by
  intro Z A O H σ m x y v w Q s r1 r2 q
  cases r2 with
  | non =>
    refine ⟨rfl, ?_⟩
    cases r1 <;> cases neg <;> exact q.ret s (.bl _)
  | _ => exact q.elim
theorem op_isND : OpR X (compareOp .Is) (fun x y H Q => y = .non ∧ Q (.bl (if false then !decide (x = .non) else decide (x = .non))) H) := op_isN
theorem op_isNotND : OpR X (compareOp .IsNot) (fun x y H Q => y = .non ∧ Q (.bl (if true then !decide (x = .non) else decide (x = .non))) H) := op_notN
end
end
end Wd

namespace Wd
open PySem PySem.Spec PyProof.Rows L2
section
variable {X : Cx} {W : WX} {e a b c : Expr} {es rest : List Expr} {pos : Pos} {f g h : Ms → Res D} {t u : Ms → Res Bool}

/-! ### and, or, not, if -/
def eAnd (f g : Ms → Res D) (m : Ms) : Res D := (f m).bind fun d m1 => match d with
  | .bl b => if b = true then g m1 else .ok (.bl false) m1
  | _ => .stuck
def eOr (f g : Ms → Res D) (m : Ms) : Res D := (f m).bind fun d m1 => match d with
  | .bl b => if b = true then .ok (.bl true) m1 else g m1
  | _ => .stuck
def eNot (f : Ms → Res D) (m : Ms) : Res D := (f m).bind fun d m1 => match d with
  | .bl b => .ok (.bl (!b)) m1
  | _ => .stuck
def tAndD (t u : Ms → Res Bool) (m : Ms) : Res Bool := (t m).bind fun b m1 => if b = true then u m1 else .ok false m1
def tOrD (t u : Ms → Res Bool) (m : Ms) : Res Bool := (t m).bind fun b m1 => if b = true then .ok true m1 else u m1
def tNotD (t : Ms → Res Bool) (m : Ms) : Res Bool := (t m).bind fun b m1 => .ok (!b) m1
def eIf (t : Ms → Res Bool) (f g : Ms → Res D) (m : Ms) : Res D := (t m).bind fun b m1 => if b = true then f m1 else g m1
theorem de_one {op} (h : DE X W a f) : DE X W (.BoolOp op [a] pos) f := pe_one h
theorem de_and (ha : DE X W a f) (hb : DE X W (.BoolOp .And (b :: rest) pos) g) : DE X W (.BoolOp .And (a :: b :: rest) pos) (eAnd f g) := by
  refine PE.imp (pe_and ha hb) fun σ H Q ⟨Z, A, O, m, s, q⟩ => ⟨Z, A, O, m, s, RP.bind q fun v x m1 A1 O1 H1 ev1 s1 r1 q1 => ?_⟩
  cases r1 with
  | bl k =>
    refine ⟨k, rfl, ?_⟩
    cases k with
    | true => exact iteT ⟨Z, A1, O1, m1, s1, q1⟩
    | false => exact iteF (q1.ret s1 (.bl _))
  | _ => exact q1.elim
theorem de_or (ha : DE X W a f) (hb : DE X W (.BoolOp .Or (b :: rest) pos) g) : DE X W (.BoolOp .Or (a :: b :: rest) pos) (eOr f g) := by
  refine PE.imp (pe_or ha hb) fun σ H Q ⟨Z, A, O, m, s, q⟩ => ⟨Z, A, O, m, s, RP.bind q fun v x m1 A1 O1 H1 ev1 s1 r1 q1 => ?_⟩
  cases r1 with
  | bl k =>
    refine ⟨k, rfl, ?_⟩
    cases k with
    | true => exact iteT (q1.ret s1 (.bl _))
    | false => exact iteF ⟨Z, A1, O1, m1, s1, q1⟩
  | _ => exact q1.elim
theorem de_not (ha : DE X W a f) : DE X W (.UnaryOp .Not a pos) (eNot f) := by
  refine PE.imp (pe_not ha) fun σ H Q ⟨Z, A, O, m, s, q⟩ => ⟨Z, A, O, m, s, RP.bind q fun v x m1 A1 O1 H1 ev1 s1 r1 q1 => ?_⟩
  cases r1 with
  | bl k => exact ⟨k, rfl, q1.ret s1 (.bl _)⟩
  | _ => exact q1.elim
theorem dw_and1 (ha : DT X W a t) : DW X W (.BoolOp .And [a] pos) t := pw_and1 ha
theorem dw_or1 (ha : DT X W a t) : DW X W (.BoolOp .Or [a] pos) t := pw_or1 ha
theorem dw_and (ha : DT X W a t) (hb : DW X W (.BoolOp .And (b :: rest) pos) u) : DW X W (.BoolOp .And (a :: b :: rest) pos) (tAndD t u) := by
  refine PW.imp (pw_and ha hb) fun σ H Q ⟨Z, A, O, m, s, q⟩ => ⟨Z, A, O, m, s, RP.bind q fun v x m1 A1 O1 H1 ev1 s1 r1 q1 => ?_⟩
  cases r1
  cases v with
  | true => exact iteT ⟨Z, A1, O1, m1, s1, q1⟩
  | false => exact iteF (q1.ret s1 rfl)
theorem dw_or (ha : DT X W a t) (hb : DW X W (.BoolOp .Or (b :: rest) pos) u) : DW X W (.BoolOp .Or (a :: b :: rest) pos) (tOrD t u) := by
  refine PW.imp (pw_or ha hb) fun σ H Q ⟨Z, A, O, m, s, q⟩ => ⟨Z, A, O, m, s, RP.bind q fun v x m1 A1 O1 H1 ev1 s1 r1 q1 => ?_⟩
  cases r1
  cases v with
  | true => exact iteT (q1.ret s1 rfl)
  | false => exact iteF ⟨Z, A1, O1, m1, s1, q1⟩
theorem dt_w (h : DW X W a t) : DT X W a t := PW.pt h
theorem dt_not (ha : DT X W a t) : DT X W (.UnaryOp .Not a pos) (tNotD t) := by
  refine PT.imp (pt_not ha) fun σ H Q ⟨Z, A, O, m, s, q⟩ => ⟨Z, A, O, m, s, RP.bind q fun v x m1 A1 O1 H1 ev1 s1 r1 q1 => ?_⟩
  cases r1
  exact q1.ret s1 rfl
theorem de_if (hc : DT X W c t) (ha : DE X W a f) (hb : DE X W b g) : DE X W (.IfExp c a b pos) (eIf t f g) := by
  refine PE.imp (pe_ifExp hc ha hb) fun σ H Q ⟨Z, A, O, m, s, q⟩ => ⟨Z, A, O, m, s, RP.bind q fun v x m1 A1 O1 H1 ev1 s1 r1 q1 => ?_⟩
  cases r1
  cases v with
  | true => exact iteT ⟨Z, A1, O1, m1, s1, q1⟩
  | false => exact iteF ⟨Z, A1, O1, m1, s1, q1⟩
/-- a < b < c -/
def eChain (k k' : D → D → Ms → Res D) (f g h : Ms → Res D) (m : Ms) : Res D := (f m).bind fun x m1 => (g m1).bind fun y m2 => (k x y m2).bind fun z m3 => match z with
  | .bl b => if b = true then (h m3).bind fun w m4 => k' y w m4 else .ok (.bl false) m3
  | _ => .stuck
theorem chain_ok {r r' : R2} {k k' : D → D → Ms → Res D} (hr : BinS X.K X.mg W r k) (hr' : BinS X.K X.mg W r' k') {σ : L2.St} {H : Hp} {Q : VK} (q : tG X.K X.mg W (rD X.K) (eChain k k' f g h) σ H Q) :
    tChain r r' (tG X.K X.mg W (rD X.K) f) (tG X.K X.mg W (rD X.K) g) (tG X.K X.mg W (rD X.K) h) σ H Q := by
  obtain ⟨Z, A, O, m, s, q⟩ := q
  refine ⟨Z, A, O, m, s, RP.bind q fun v x m1 A1 O1 H1 ev1 s1 r1 q1 => ⟨Z, A1, O1, m1, s1, RP.bind q1 fun w y m2 A2 O2 H2 ev2 s2 r2 q2 => ?_⟩⟩
  refine hr Z A2 O2 H2 σ m2 x y v w _ s2 (r1.carry ev2.carry) r2 (RP.bind q2 fun z d m3 A3 O3 H3 ev3 s3 r3 q3 => ?_)
  cases r3 with
  | bl b =>
    refine ⟨b, rfl, ?_⟩
    cases b with
    | true => exact iteT ⟨Z, A3, O3, m3, s3, RP.bind q3 fun w' y' m4 A4 O4 H4 ev4 s4 r4 q4 => hr' Z A4 O4 H4 σ m4 y y' w w' Q s4 (r2.carry (ev3.trans ev4).carry) r4 q4⟩
    | false => exact iteF (q3.ret s3 (.bl _))
  | _ => exact q3.elim
theorem de_chain {op op' : CmpOp} {r r' : R2} {k k' : D → D → Ms → Res D} (ho : OpR X (compareOp op) r) (ho' : OpR X (compareOp op') r') (hr : BinS X.K X.mg W r k) (hr' : BinS X.K X.mg W r' k') (ha : DE X W a f) (hb : DE X W b g) (hc : DE X W c h)
    (hm : lastMarks [op, op'] [b, c] = false := by with_unfolding_all rfl) : DE X W (.Compare a [op, op'] [b, c] pos) (eChain k k' f g h) :=
  PE.imp (pe_chain ho ho' ha hb hc hm) fun σ H Q q => chain_ok hr hr' q
theorem tOf_G {σ : L2.St} {H : Hp} {Q : Bool → Hp → Prop} (q : tG X.K X.mg W rB (tOf f) σ H Q) : tG X.K X.mg W (rD X.K) f σ H fun x H' => ∃ k, x = .bl k ∧ Q k H' := by
  obtain ⟨Z, A, O, m, s, q⟩ := q
  exact ⟨Z, A, O, m, s, RP.bind q fun v x m1 A1 O1 H1 ev1 s1 r1 q1 => asB_ok s1 r1 q1⟩
theorem dt_chain {op op' : CmpOp} {r r' : R2} {k k' : D → D → Ms → Res D} (ho : OpR X (compareOp op) r) (ho' : OpR X (compareOp op') r') (hr : BinS X.K X.mg W r k) (hr' : BinS X.K X.mg W r' k') (ha : DE X W a f) (hb : DE X W b g) (hc : DE X W c h)
    (hm : lastMarks [op, op'] [b, c] = false := by with_unfolding_all rfl) : DT X W (.Compare a [op, op'] [b, c] pos) (tOf (eChain k k' f g h)) :=
  PT.imp (pt_chain ho ho' ha hb hc hm) fun σ H Q q => chain_ok hr hr' (tOf_G q)

/-! ### arguments, displays -/
def aNil (m : Ms) : Res (List D) := .ok [] m
def aCons (f : Ms → Res D) (fs : Ms → Res (List D)) (m : Ms) : Res (List D) := (f m).bind fun d m1 => (fs m1).bind fun ds m2 => .ok (d :: ds) m2
def aStar (f : Ms → Res (List D)) (fs : Ms → Res (List D)) (m : Ms) : Res (List D) := (f m).bind fun d m1 => (fs m1).bind fun ds m2 => .ok (d ++ ds) m2
variable {fs : Ms → Res (List D)}
theorem da_nil : DA X W [] aNil := PA.imp pa_nil fun σ H Q ⟨Z, A, O, m, s, q⟩ => q.ret s .nil
theorem da_cons (he : DE X W e f) (hr : DA X W es fs) (hs : starEach (e :: es) X.env = (false, eval e X.env) :: starEach es X.env := by rfl) : DA X W (e :: es) (aCons f fs) := by
  refine PA.imp (pa_cons he hr hs) fun σ H Q ⟨Z, A, O, m, s, q⟩ => ⟨Z, A, O, m, s, RP.bind q fun v x m1 A1 O1 H1 ev1 s1 r1 q1 => ⟨Z, A1, O1, m1, s1, RP.bind q1 fun w y m2 A2 O2 H2 ev2 s2 r2 q2 => ?_⟩⟩
  exact q2.ret s2 (.cons (r1.carry ev2.carry) r2)
theorem da_star {p : Pos} {fq : Ms → Res (List D)} (he : DQ X W e fq) (hr : DA X W es fs) (hs : starEach (.Starred e p :: es) X.env = (true, eval e X.env) :: starEach es X.env := by rfl) : DA X W (.Starred e p :: es) (aStar fq fs) := by
  refine PA.imp (StX.pa_star he hr hs) fun σ H Q ⟨Z, A, O, m, s, q⟩ => ⟨Z, A, O, m, s, RP.bind q fun v x m1 A1 O1 H1 ev1 s1 r1 q1 => ?_⟩
  obtain ⟨a, xs, rfl, hx, r1⟩ := r1
  exact ⟨a, xs, rfl, hx.symm, Z, A1, O1, m1, s1, RP.bind q1 fun w y m2 A2 O2 H2 ev2 s2 r2 q2 => q2.ret s2 ((r1.carry ev2.carry).app r2)⟩
def eTup (fs : Ms → Res (List D)) (m : Ms) : Res D := (fs m).bind fun ds m1 => if ds.length ≤ 16777216 then .ok (.tup ds) m1 else .stuck
def nLst (fs : Ms → Res (List D)) (m : Ms) : Res (List D) := (fs m).bind fun ds m1 => if ds.length ≤ 16777216 then .ok ds m1 else .stuck
theorem de_tup {n} (h : DA X W es fs) : DE X W (.Tuple es n pos) (eTup fs) := by
  refine PE.imp (pe_tup h) fun σ H Q ⟨Z, A, O, m, s, q⟩ => ⟨Z, A, O, m, s, RP.bind q fun v x m1 A1 O1 H1 ev1 s1 r1 q1 => ?_⟩
  by_cases hz : x.length ≤ 16777216
  · rw [if_pos hz] at q1
    exact ⟨by rw [r1.len]; exact lim_le hz, fun p hp => q1.retE (.new hp) (s1.new hp) (Rep.newTup s1 hp r1)⟩
  · rw [if_neg hz] at q1
    exact q1.elim
theorem dn_lst (h : DA X W es fs) : DN X W (.List es pos) (nLst fs) := by
  refine PE.imp (pe_lst h) fun σ H Q ⟨Z, A, O, m, s, q⟩ => ⟨Z, A, O, m, s, RP.bind q fun v x m1 A1 O1 H1 ev1 s1 r1 q1 => ?_⟩
  by_cases hz : x.length ≤ 16777216
  · rw [if_pos hz] at q1
    exact ⟨by rw [r1.len]; exact lim_le hz, q1.ret s1 r1⟩
  · rw [if_neg hz] at q1
    exact q1.elim

/-! ### built-ins called -/
def CalS (K : PySem.W.Frag) (mg : Str → Option Value) (W : WX) (r : List V → Hp → VK → Prop) (g : List D → Ms → Res D) : Prop :=
  ∀ Z A O H σ m xs vs Q, RS K Z A O H σ m → Reps K A (bad A O Z) H vs xs → RP K mg W (rD K) Z σ A O H Q (g xs m) → r vs H Q
def eCall (g : List D → Ms → Res D) (fs : Ms → Res (List D)) (m : Ms) : Res D := (fs m).bind g
theorem de_callB {id : String} {r : List V → Hp → VK → Prop} {g : List D → Ms → Res D} {x : Str} {p : Pos} (hc : CallR X (.builtin id) r) (hr : CalS X.K X.mg W r g) (hm : X.mg x = none) (hv : bootBuiltins x = some (.builtin id)) (ha : DA X W (e :: es) fs)
    (hg : Gl X x := by rfl) (hn : x ≠ "__name__" := by decide) (hdb : (x == ("__debug__" : Str)) = false := by decide)
    (he : starEach (e :: es) X.env = (false, eval e X.env) :: starEach es X.env := by rfl) (hpl : (backTo pos (starEach es X.env)).any (·.1) = false := by rfl) :
    DE X W (.Call (.Name x p) (e :: es) [] pos) (eCall g fs) :=
  PE.imp (pe_callB hc hg hm hv ha hn hdb he hpl) fun σ H Q ⟨Z, A, O, m, s, q⟩ => ⟨Z, A, O, m, s, RP.bind q fun v x m1 A1 O1 H1 ev1 s1 r1 q1 => hr Z A1 O1 H1 σ m1 x v Q s1 r1 q1⟩
theorem de_callTy {T : String} {r : List V → Hp → VK → Prop} {g : List D → Ms → Res D} {x : Str} {p : Pos} (hc : CallR X (.type T) r) (hr : CalS X.K X.mg W r g) (hm : X.mg x = none) (hv : bootBuiltins x = some (.type T)) (ha : DA X W (e :: es) fs)
    (hg : Gl X x := by rfl) (hn : x ≠ "__name__" := by decide) (hdb : (x == ("__debug__" : Str)) = false := by decide)
    (he : starEach (e :: es) X.env = (false, eval e X.env) :: starEach es X.env := by rfl) (hpl : (backTo pos (starEach es X.env)).any (·.1) = false := by rfl) :
    DE X W (.Call (.Name x p) (e :: es) [] pos) (eCall g fs) :=
  PE.imp (pe_callTy hc hg hm hv ha hn hdb he hpl) fun σ H Q ⟨Z, A, O, m, s, q⟩ => ⟨Z, A, O, m, s, RP.bind q fun v x m1 A1 O1 H1 ev1 s1 r1 q1 => hr Z A1 O1 H1 σ m1 x v Q s1 r1 q1⟩
end
end Wd

namespace Wd
open PySem PySem.Spec PyProof.Rows L2

/-- operations whose operands may be lists of the frame's own -/
def BinL (K : PySem.W.Frag) (mg : Str → Option Value) (W : WX) (r : R2) (g : D → D → Ms → Res D) : Prop :=
  ∀ Z A O H σ m x y v w Q, RS K Z A O H σ m → rW K A (bad A O Z) H v x → Rep K A (bad A O Z) H w y → RP K mg W (rD K) Z σ A O H Q (g x y m) → r v w H Q
def BinR (K : PySem.W.Frag) (mg : Str → Option Value) (W : WX) (r : R2) (g : D → D → Ms → Res D) : Prop :=
  ∀ Z A O H σ m x y v w Q, RS K Z A O H σ m → Rep K A (bad A O Z) H v x → rW K A (bad A O Z) H w y → RP K mg W (rD K) Z σ A O H Q (g x y m) → r v w H Q
/-- the left operand a name: read behind the right one -/
def e2V (g : D → D → Ms → Res D) (i : Nat) (f' : Ms → Res D) (m : Ms) : Res D := match m.r[i]? with
  | none => .stuck
  | some .un => .stuck
  | some _ => (f' m).bind fun y m1 => match m1.r[i]? with
    | some (.val d) => g d y m1
    | some (.own ds) => g (.lst ds) y m1
    | _ => .stuck
section
variable {X : Cx} {W : WX} {e a b c : Expr} {es rest : List Expr} {pos : Pos} {f g h : Ms → Res D}
theorem BinL.s {r : R2} {k : D → D → Ms → Res D} {K : PySem.W.Frag} {mg : Str → Option Value} (hr : BinL K mg W r k) : BinS K mg W r k := fun Z A O H σ m x y v w Q s r1 r2 q => hr Z A O H σ m x y v w Q s (.inl r1) r2 q
theorem BinR.s {r : R2} {k : D → D → Ms → Res D} {K : PySem.W.Frag} {mg : Str → Option Value} (hr : BinR K mg W r k) : BinS K mg W r k := fun Z A O H σ m x y v w Q s r1 r2 q => hr Z A O H σ m x y v w Q s r1 (.inl r2) q
theorem left_ok {r : R2} {k : D → D → Ms → Res D} (hr : BinL X.K X.mg W r k) {i : Nat} {f' : Ms → Res D} {σ : L2.St} {H : Hp} {Q : VK} (q : tG X.K X.mg W (rD X.K) (e2V k i f') σ H Q) :
    tOp r (tVar i) (tG X.K X.mg W (rD X.K) f') σ H Q := by
  obtain ⟨Z, A, O, m, s, q⟩ := q
  have main : ∀ (l : Sl) (v : V), m.r[i]? = some l → l ≠ .un → σ[i]? = some (some v) → tOp r (tVar i) (tG X.K X.mg W (rD X.K) f') σ H Q := fun l v e nl ev => by
    have q' : RP X.K X.mg W (rD X.K) Z σ A O H Q ((f' m).bind fun y m1 => match m1.r[i]? with
        | some (.val d) => k d y m1
        | some (.own ds) => k (.lst ds) y m1
        | _ => .stuck) := by
      simp only [e2V, e] at q
      cases l with
      | un => exact absurd rfl nl
      | val d => exact q
      | own ds => exact q
    refine ⟨v, ev, Z, A, O, m, s, RP.bind q' fun w y m1 A1 O1 H1 ev1 s1 r1 q1 => ?_⟩
    cases e1 : m1.r[i]? with
    | none => simp only [e1] at q1; exact q1.elim
    | some l1 =>
      obtain ⟨x', o, e2, e3, sl⟩ := s1.at e1
      rw [ev] at e2
      cases e2
      cases l1 with
      | un => simp only [e1] at q1; exact q1.elim
      | val d =>
        simp only [e1] at q1
        obtain ⟨_, v', ev', rv⟩ := sl
        cases ev'
        exact hr Z A1 O1 H1 σ m1 d y v w Q s1 (.inl rv) r1 q1
      | own ds =>
        simp only [e1] at q1
        obtain ⟨p, xs, _, ev', ex, rx⟩ := sl
        cases ev'
        exact hr Z A1 O1 H1 σ m1 (.lst ds) y _ w Q s1 (.inr ⟨ds, p, xs, rfl, rfl, ex, rx⟩) r1 q1
  cases e : m.r[i]? with
  | none => simp only [e2V, e] at q; exact q.elim
  | some l =>
    obtain ⟨x', o, e2, e3, sl⟩ := s.at e
    cases l with
    | un => simp only [e2V, e] at q; exact q.elim
    | val d => obtain ⟨_, v, rfl, _⟩ := sl; exact main _ v e (by simp) e2
    | own ds => obtain ⟨p, xs, _, rfl, _⟩ := sl; exact main _ _ e (by simp) e2

/-! ### len -/
def oLen (d : D) (m : Ms) : Res D := match d with
  | .str z => if z.length ≤ 16777216 then .ok (.int z.length) m else .stuck
  | d => (itemsOf d m).bind fun ds m1 => .ok (.int ds.length) m1
def e1 (g : D → Ms → Res D) (f : Ms → Res D) (m : Ms) : Res D := (f m).bind g
theorem de_len {p : Pos} (hm : X.mg "len" = none) (ha : DB X W e f) (hg : Gl X "len" := by rfl) (he : starEach (e :: []) X.env = (false, eval e X.env) :: starEach [] X.env := by rfl) : DE X W (.Call (.Name "len" p) [e] [] pos) (e1 oLen f) := by
  refine PE.imp (pe_callB call_len hg hm PySem.boot_len (pa_cons ha pa_nil he) (by decide) (by decide) he rfl) fun σ H Q ⟨Z, A, O, m, s, q⟩ => ⟨Z, A, O, m, s, RP.bind q fun v d m1 A1 O1 H1 ev1 s1 r1 q1 => ?_⟩
  have seq : ∀ ds m', itemsOf d m1 = .ok ds m' → RP X.K X.mg W (rD X.K) Z σ A1 O1 H1 Q (.ok (.int ds.length) m') → ∃ x n, [v] = [x] ∧ LenV X.K x H1 n ∧ Q (.int n) H1 := fun ds m' ei q2 => by
    obtain ⟨rfl, a, xs, rfl, hx, rx⟩ := items_sq s1 r1 ei
    refine ⟨_, xs.length, rfl, ?_, ?_⟩
    · rcases hx with hx | hx
      · exact .inl ⟨xs, hx, rfl⟩
      · exact .inr ⟨xs, hx, rfl⟩
    · rw [rx.len]
      exact q2.ret s1 (.int _)
  cases d with
  | str z =>
    rcases r1 with r1 | ⟨ds, a, xs, e, _⟩
    · cases r1
      by_cases hz : z.length ≤ 16777216
      · simp only [oLen, if_pos hz] at q1
        exact ⟨_, z.length, rfl, ⟨lim_le hz, rfl⟩, q1.ret s1 (.int _)⟩
      · simp only [oLen, if_neg hz] at q1
        exact q1.elim
    · cases e
  | tup ds => exact seq ds m1 rfl q1
  | lst ds => exact seq ds m1 rfl q1
  | ro ds => exact seq ds m1 rfl q1
  | loc n =>
    cases ei : itemsOf (.loc n) m1 with
    | ok ds m' => simp only [oLen, ei] at q1; exact seq ds m' ei q1
    | exc x m' => exact (items_exc ei).elim
    | stuck => simp only [oLen, ei] at q1; exact q1.elim
  | _ => exact q1.elim
/-! ### items -/
def oIx (x y : D) (m : Ms) : Res D := match y with
  | .int i => (match x with
    | .str z => if z.length ≤ 16777216 then (match atI z.cps.toList i with
      | some c => .ok (.str ⟨#[c]⟩) m
      | none => .stuck) else .stuck
    | x => (itemsOf x m).bind fun ds m1 => match atI ds i with
      | some d => .ok d m1
      | none => .stuck)
  | _ => .stuck
theorem atI_rep {K : PySem.W.Frag} {A B : List Addr} {H : Hp} {xs : List V} {ds : List D} {i : Int} {d : D} (r : Reps K A B H xs ds) (h : atI ds i = some d) : ∃ v, atI xs i = some v ∧ Rep K A B H v d := by
  unfold atI at h ⊢
  rw [r.len]
  cases e : ixN ds.length i with
  | none => rw [e] at h; cases h
  | some j =>
    rw [e] at h
    exact r.get h
theorem bl_ix : BinL X.K X.mg W (rIx X.K) oIx := by
  intro Z A O H σ m x y v w Q s r1 r2 q
  cases r2 with
  | int i =>
    have seq : ∀ ds m', itemsOf x m = .ok ds m' → RP X.K X.mg W (rD X.K) Z σ A O H Q (match atI ds i with | some d => .ok d m' | none => .stuck) → rIx X.K v (.int i) H Q := fun ds m' ei q2 => by
      obtain ⟨rfl, a, xs, rfl, hx, rx⟩ := items_sq s r1 ei
      cases ea : atI ds i with
      | none => rw [ea] at q2; exact q2.elim
      | some d =>
        rw [ea] at q2
        obtain ⟨v, hv, rv⟩ := atI_rep rx ea
        rcases hx with hx | hx
        · exact .inl ⟨a, xs, i, v, rfl, rfl, hx, hv, q2.ret s rv⟩
        · exact .inr (.inl ⟨a, xs, i, v, rfl, rfl, hx, hv, q2.ret s rv⟩)
    cases x with
    | str z =>
      rcases r1 with r1 | ⟨ds, a, xs, e, _⟩
      · cases r1
        by_cases hz : z.length ≤ 16777216
        · simp only [oIx, if_pos hz] at q
          cases ea : atI z.cps.toList i with
          | none => rw [ea] at q; exact q.elim
          | some c => rw [ea] at q; exact .inr (.inr ⟨z, i, c, rfl, rfl, lim_le hz, ea, q.ret s (.str _)⟩)
        · simp only [oIx, if_neg hz] at q
          exact q.elim
      · cases e
    | tup ds => exact seq ds m rfl q
    | lst ds => exact seq ds m rfl q
    | ro ds => exact seq ds m rfl q
    | loc n =>
      cases ei : itemsOf (.loc n) m with
      | ok ds m' => simp only [oIx, ei] at q; exact seq ds m' ei q
      | exc x m' => exact (items_exc ei).elim
      | stuck => simp only [oIx, ei] at q; exact q.elim
    | _ => exact q.elim
  | _ => exact q.elim
theorem de_ix {f' : Ms → Res D} (ha : DE X W a f) (hb : DE X W b f') (hs : PlainIx b := by exact fun _ _ => rfl) : DE X W (.Subscript a b pos) (e2 oIx f f') := by
  refine PE.imp (pe_ix ix_seq ha hb hs) fun σ H Q ⟨Z, A, O, m, s, q⟩ => ⟨Z, A, O, m, s, RP.bind q fun v x m1 A1 O1 H1 ev1 s1 r1 q1 => ⟨Z, A1, O1, m1, s1, RP.bind q1 fun w y m2 A2 O2 H2 ev2 s2 r2 q2 => ?_⟩⟩
  exact bl_ix Z A2 O2 H2 σ m2 x y v w Q s2 (.inl (r1.carry ev2.carry)) r2 q2
/-- an item of what a name holds -/
theorem de_ixV (i : Nat) {x : Str} {p : Pos} {f' : Ms → Res D} (hb : DE X W b f') (hs : PlainIx b := by exact fun _ _ => rfl) (hN : X.N[i]? = some x := by rfl) (hv : Vis X.env.scope x := by first | exact Or.inl rfl | exact Or.inr (Or.inl rfl) | exact Or.inr (Or.inr rfl))
    (hd : (x == ("__debug__" : Str)) = false := by decide) (hcd : (x == ("__classdict__" : Str)) = false := by decide) : DE X W (.Subscript (.Name x p) b pos) (e2V oIx i f') :=
  PE.imp (pe_ix ix_seq (pv i hN hv hd hcd) hb hs) fun σ H Q q => left_ok bl_ix q

/-! ### slices -/
def cutL {α : Type} (ds : List α) (lo hi : Option Int) : List α := (ds.drop (HT.sIx ds.length 0 lo)).take (HT.sIx ds.length ds.length hi - HT.sIx ds.length 0 lo)
theorem Reps.cut {K : PySem.W.Frag} {A B : List Addr} {H : Hp} {xs : List V} {ds : List D} (r : Reps K A B H xs ds) (lo hi : Option Int) : Reps K A B H (cutV xs lo hi) (cutL ds lo hi) := by
  unfold cutV cutL
  rw [r.len]
  exact (r.drop _).take _
def pNone (m : Ms) : Res (Option Int) := .ok none m
def pSome (f : Ms → Res D) (m : Ms) : Res (Option Int) := (f m).bind fun d m1 => match d with
  | .int i => .ok (some i) m1
  | _ => .stuck
theorem do_none : DO X W none pNone := PO.imp po_none fun σ H Q ⟨Z, A, O, m, s, q⟩ => q.ret s rfl
theorem do_some (h : DE X W e f) : DO X W (some e) (pSome f) := PO.imp (po_some h) fun σ H Q ⟨Z, A, O, m, s, q⟩ => ⟨Z, A, O, m, s, RP.bind q fun v d m1 A1 O1 H1 ev1 s1 r1 q1 => by
  cases r1 with
  | int i => exact ⟨i, rfl, q1.ret s1 rfl⟩
  | _ => exact q1.elim⟩
def oSl (x : D) (lo hi : Option Int) (m : Ms) : Res D := match x with
  | .str z => if z.length ≤ 16777216 then .ok (.str (cutS z lo hi)) m else .stuck
  | .tup ds => .ok (.tup (cutL ds lo hi)) m
  | x => (itemsOf x m).bind fun ds m1 => .ok (.lst (cutL ds lo hi)) m1
def eSl (f : Ms → Res D) (l u : Ms → Res (Option Int)) (m : Ms) : Res D := (f m).bind fun x m1 => (l m1).bind fun lo m2 => (u m2).bind fun hi m3 => oSl x lo hi m3
theorem de_slice {lo hi : Option Expr} {l u : Ms → Res (Option Int)} {p2 : Pos} (he : DE X W e f) (hl : DO X W lo l) (hu : DO X W hi u) : DE X W (.Subscript e (.Slice lo hi none p2) pos) (eSl f l u) := by
  refine PE.imp (pe_slice (sl_str.or (sl_tupA.or sl_list)) he hl hu) fun σ H Q ⟨Z, A, O, m, s, q⟩ => ⟨Z, A, O, m, s, RP.bind q fun v x m1 A1 O1 H1 ev1 s1 r1 q1 => ⟨Z, A1, O1, m1, s1, RP.bind q1 fun w y m2 A2 O2 H2 ev2 s2 r2 q2 => ⟨Z, A2, O2, m2, s2, RP.bind q2 fun w' y' m3 A3 O3 H3 ev3 s3 r3 q3 => ?_⟩⟩⟩
  cases r2
  cases r3
  have r0 := r1.carry (ev2.trans ev3).carry
  have lst : ∀ ds a xs, v = .ref a → SqL X.K H3 a xs → Reps X.K A3 (bad A3 O3 Z) H3 xs ds → RP X.K X.mg W (rD X.K) Z σ A3 O3 H3 Q (.ok (.lst (cutL ds w w')) m3) → (rSlS v w w' H3 Q ∨ rSlA X.K v w w' H3 Q ∨ rSlL X.K v w w' H3 Q) := fun ds a xs ev hx rx q4 =>
    .inr (.inr ⟨a, xs, ev, hx, fun p hp => q4.retE (.new hp) (s3.new hp) (Rep.newLst s3 hp (rx.cut w w'))⟩)
  cases r0 with
  | str z =>
    by_cases hz : z.length ≤ 16777216
    · simp only [oSl, if_pos hz] at q3
      exact .inl ⟨z, rfl, lim_le hz, q3.ret s3 (.str _)⟩
    · simp only [oSl, if_neg hz] at q3
      exact q3.elim
  | @tup a xs ds h1 h2 =>
    refine .inr (.inl ⟨a, xs, rfl, h1.sq, fun hw => ?_, fun _ p hp => q3.retE (.new hp) (s3.new hp) (Rep.newTup s3 hp (h2.cut w w'))⟩)
    have e : cutL ds w w' = ds := by
      unfold cutL
      rw [← h2.len, hw.1, hw.2, List.drop_zero, Nat.sub_zero, h2.len, List.take_length]
    rw [oSl, e] at q3
    exact q3.ret s3 (.tup h1 h2)
  | @lst a xs ds h1 h2 => exact lst ds a xs rfl h1.sq h2 q3
  | @ro a xs ds h1 h2 => exact lst ds a xs rfl h1.sq h2 q3
  | @loc a n h1 =>
    simp only [oSl, itemsOf] at q3
    cases es : m3.S[n]? with
    | none => rw [es] at q3; exact q3.elim
    | some o =>
      rw [es] at q3
      cases o with
      | lst ds =>
        obtain ⟨b, eb, xs, ex, rx⟩ := s3.sim.obj n _ es
        rw [h1] at eb
        cases eb
        exact lst ds a xs rfl (.inl (.inl ex)) rx q3
  | _ => exact q3.elim
end
end Wd

namespace Wd
open PySem PySem.Spec PyProof.Rows L2

/-! ### data as the library's data -/
mutual
def py : D → PyData
  | .non => .none
  | .bl b => .bool b
  | .int i => .int i
  | .str x => .str x
  | .tup ds => .tuple (pys ds)
  | .lst ds => .list (pys ds)
  | .ro ds => .list (pys ds)
  | .loc _ => .dict []
def pys : List D → List PyData
  | [] => []
  | d :: ds => py d :: pys ds
end
mutual
theorem Rep.dp {K : PySem.W.Frag} {A B : List Addr} {H : Hp} : ∀ {d : D} {v : V}, (py d).canLay0 = true → Rep K A B H v d → Dp K H v (py d)
  | .non, _, _, h => by cases h; rw [py]; exact .non
  | .bl b, _, _, h => by cases h; rw [py]; exact .bl b
  | .int i, _, _, h => by cases h; rw [py]; exact .int i
  | .str x, _, _, h => by cases h; rw [py]; exact .str x
  | .tup ds, _, e, h => by
    rw [py] at e ⊢
    cases h with
    | tup h1 h2 => exact .tup h1.sq (Reps.dps (by simpa [PyData.canLay0] using e) h2)
  | .lst ds, _, e, h => by
    rw [py] at e ⊢
    cases h with
    | lst h1 h2 => exact .lst h1.sq (Reps.dps (by simpa [PyData.canLay0] using e) h2)
  | .ro ds, _, e, h => by
    rw [py] at e ⊢
    cases h with
    | ro h1 h2 => exact .lst h1.sq (Reps.dps (by simpa [PyData.canLay0] using e) h2)
  | .loc n, _, e, _ => by
    rw [py] at e
    simp [PyData.canLay0] at e
theorem Reps.dps {K : PySem.W.Frag} {A B : List Addr} {H : Hp} : ∀ {ds : List D} {vs : List V}, PyData.canLayAll0 (pys ds) = true → Reps K A B H vs ds → DpAll K H vs (pys ds)
  | [], _, _, h => by cases h; rw [pys]; exact .nil
  | d :: ds, _, e, h => by
    rw [pys] at e ⊢
    have e' : (py d).canLay0 = true ∧ PyData.canLayAll0 (pys ds) = true := by simpa [PyData.canLayAll0] using e
    cases h with
    | cons h1 h2 => exact .cons (Rep.dp e'.1 h1) (Reps.dps e'.2 h2)
end
def okEq (d : D) : Bool := SeqAt.shaped (py d)
def eqD (x y : D) : Bool := PyData.eqv (py x) (py y)
/-- scalars by their values; other data by == of data -/
def eqS : D → D → Option Bool
  | .non, .non => some true | .non, .int _ => some false | .int _, .non => some false | .non, .bl _ => some false | .bl _, .non => some false | .non, .str _ => some false | .str _, .non => some false
  | .int i, .int j => some (decide (i = j)) | .bl i, .bl j => some (decide (i = j)) | .str i, .str j => some (decide (i = j))
  | .int _, .str _ => some false | .str _, .int _ => some false | .bl _, .str _ => some false | .str _, .bl _ => some false
  | _, _ => none
def oEq (neg : Bool) (x y : D) (m : Ms) : Res D := match eqS x y with
  | some b => .ok (.bl (if neg then !b else b)) m
  | none => if okEq x = true ∧ okEq y = true then .ok (.bl (if neg then !eqD x y else eqD x y)) m else .stuck
theorem eqS_scal {K : PySem.W.Frag} {A B : List Addr} {H : Hp} {x y : D} {v w : V} {b : Bool} (r1 : Rep K A B H v x) (r2 : Rep K A B H w y) (e : eqS x y = some b) : scal v w = true ∧ decide (v = w) = b := by
  cases r1 <;> cases r2 <;> simp only [eqS] at e <;> first | (cases e; exact ⟨rfl, by simp⟩) | cases e
section
variable {X : Cx} {W : WX} {e a b c : Expr} {es rest : List Expr} {pos : Pos} {f g h : Ms → Res D}
theorem okEq_lay {d : D} (h : okEq d = true) : (py d).canLay0 = true := SeqAt.canLay_of_shaped h
theorem bs_eq : BinS X.K X.mg W (fun x y H Q => rEq x y H Q ∨ rEqD X.K x y H Q) (oEq false) := by
  intro Z A O H σ m x y v w Q s r1 r2 q
  cases e : eqS x y with
  | some b =>
    simp only [oEq, e] at q
    obtain ⟨h1, h2⟩ := eqS_scal r1 r2 e
    exact .inl ⟨h1, by rw [h2]; exact q.ret s (.bl _)⟩
  | none =>
    simp only [oEq, e] at q
    by_cases hc : okEq x = true ∧ okEq y = true
    · rw [if_pos hc] at q
      exact .inr ⟨py x, py y, r1.dp (okEq_lay hc.1), r2.dp (okEq_lay hc.2), hc.1, hc.2, q.ret s (.bl _)⟩
    · rw [if_neg hc] at q
      exact q.elim
theorem bs_ne : BinS X.K X.mg W (fun x y H Q => rNe x y H Q ∨ rNeD X.K x y H Q) (oEq true) := by
  intro Z A O H σ m x y v w Q s r1 r2 q
  cases e : eqS x y with
  | some b =>
    simp only [oEq, e] at q
    obtain ⟨h1, h2⟩ := eqS_scal r1 r2 e
    exact .inl ⟨h1, by rw [h2]; exact q.ret s (.bl _)⟩
  | none =>
    simp only [oEq, e] at q
    by_cases hc : okEq x = true ∧ okEq y = true
    · rw [if_pos hc] at q
      exact .inr ⟨py x, py y, r1.dp (okEq_lay hc.1), r2.dp (okEq_lay hc.2), hc.1, hc.2, q.ret s (.bl _)⟩
    · rw [if_neg hc] at q
      exact q.elim
theorem op_eqA (hu : X.A.units + 64 < cLine) : OpR X (compareOp .Eq) (fun x y H Q => rEq x y H Q ∨ rEqD X.K x y H Q) := op_eq.or (op_eqD hu)
theorem op_neA (hu : X.A.units + 64 < cLine) : OpR X (compareOp .NotEq) (fun x y H Q => rNe x y H Q ∨ rNeD X.K x y H Q) := op_ne.or (op_neD hu)

/-! ### in -/
def flatD : D → Bool
  | .non => true | .bl _ => true | .int _ => true | .str _ => true | _ => false
def eqF : D → D → Bool
  | .non, .non => true
  | .bl a, .bl b => a == b
  | .bl a, .int b => (if a then 1 else 0) == b
  | .int a, .bl b => a == (if b then 1 else 0)
  | .int a, .int b => a == b
  | .str a, .str b => a == b
  | _, _ => false
def inD (x : D) (ds : List D) : Bool := ds.any fun y => eqF y x
def toV : D → V
  | .non => .non | .bl b => .bl b | .int i => .int i | .str x => .str x | _ => .non
theorem flat_toV {K : PySem.W.Frag} {A B : List Addr} {H : Hp} {d : D} {v : V} (r : Rep K A B H v d) (h : flatD d = true) : v = toV d ∧ flatV v = true := by
  cases r <;> first | exact ⟨rfl, rfl⟩ | cases h
theorem eqF_V {x y : D} (h1 : flatD x = true) (h2 : flatD y = true) : eqV (toV x) (toV y) = eqF x y := by
  cases x <;> cases y <;> first | (cases h1; done) | (cases h2; done) | rfl
theorem flats_toV {K : PySem.W.Frag} {A B : List Addr} {H : Hp} : ∀ {ds : List D} {vs : List V}, Reps K A B H vs ds → ds.all flatD = true → vs.all flatV = true ∧ ∀ (d : D), flatD d = true → inV (toV d) vs = inD d ds
  | _, _, .nil, _ => ⟨rfl, fun _ _ => rfl⟩
  | _, _, .cons r t, h => by
    rw [List.all_cons, Bool.and_eq_true] at h
    obtain ⟨e, f⟩ := flat_toV r h.1
    obtain ⟨g1, g2⟩ := flats_toV t h.2
    refine ⟨by rw [List.all_cons, f, g1]; rfl, fun d hd => ?_⟩
    show ((_ :: _ : List V).any fun y => eqV y (toV d)) = ((_ :: _ : List D).any fun y => eqF y d)
    rw [List.any_cons, List.any_cons, e, eqF_V h.1 hd]
    exact congrArg _ (g2 d hd)
/-- of data of any depth -/
def inDD (x : D) (ds : List D) : Bool := ds.any fun y => eqD y x
def lstD : D → Bool
  | .tup _ => false
  | _ => true
def oIn (neg : Bool) (x y : D) (m : Ms) : Res D := match y with
  | .str z => (match x with
    | .str s => if s.cps.size = 1 then .ok (.bl (if neg then !decide (s.cps.getD 0 0 ∈ z.cps.toList) else decide (s.cps.getD 0 0 ∈ z.cps.toList))) m else .stuck
    | _ => .stuck)
  | y => (itemsOf y m).bind fun ds m1 => if flatD x = true ∧ ds.all flatD = true then .ok (.bl (if neg then !inD x ds else inD x ds)) m1 else if (okEq x = true ∧ okEq (.lst ds) = true) ∧ lstD y = true then .ok (.bl (if neg then !inDD x ds else inDD x ds)) m1 else .stuck
def rInDN (K : PySem.W.Frag) (neg : Bool) : R2 := fun x y H Q => ∃ d ds, Dp K H x d ∧ Dp K H y (.list ds) ∧ SeqAt.shaped d = true ∧ SeqAt.shaped (.list ds) = true ∧ Q (.bl (if neg then !(ds.any fun z => PyData.eqv z d) else ds.any fun z => PyData.eqv z d)) H
theorem inDD_pys {x : D} : ∀ {ds : List D}, ((pys ds).any fun z => PyData.eqv z (py x)) = inDD x ds
  | [] => by rw [pys]; rfl
  | d :: ds => by rw [pys, List.any_cons, inDD_pys]; rfl
theorem items_sqL {K : PySem.W.Frag} {Z A : List Addr} {O : Ow} {H : Hp} {σ : L2.St} {m : Ms} {d : D} {v : V} {ds : List D} {m' : Ms} (s : RS K Z A O H σ m) (r : rW K A (bad A O Z) H v d) (e : itemsOf d m = .ok ds m') (hl : lstD d = true) : ∃ a xs, v = .ref a ∧ SqL K H a xs ∧ Reps K A (bad A O Z) H xs ds := by
  rcases r with r | ⟨es, a, xs, rfl, rfl, ex, rx⟩
  · cases r with
    | tup h1 h2 => cases hl
    | lst h1 h2 => cases e; exact ⟨_, _, rfl, h1.sq, h2⟩
    | ro h1 h2 => cases e; exact ⟨_, _, rfl, h1.sq, h2⟩
    | @loc a n h1 =>
      simp only [itemsOf] at e
      cases q : m.S[n]? with
      | none => rw [q] at e; cases e
      | some o =>
        rw [q] at e
        cases o with
        | lst es =>
          cases e
          obtain ⟨b, eb, xs, ex, rx⟩ := s.sim.obj n _ q
          rw [h1] at eb
          cases eb
          exact ⟨a, xs, rfl, .inl (.inl ex), rx⟩
    | _ => cases e
  · cases e
    exact ⟨a, xs, rfl, .inl (.inl ex), rx⟩
def rSign (neg : Bool) : R2 := fun x y H Q => ∃ (c : Nat) (z : Str), x = .str ⟨#[c]⟩ ∧ y = .str z ∧ Q (.bl (if neg then !decide (c ∈ z.cps.toList) else decide (c ∈ z.cps.toList))) H
theorem one_sign {s : Str} (h : s.cps.size = 1) : s = ⟨#[s.cps.getD 0 0]⟩ := by
  obtain ⟨c⟩ := s
  obtain ⟨l⟩ := c
  match l, h with
  | [x], _ => rfl
theorem br_in (neg : Bool) : BinR X.K X.mg W (fun x y H Q => (rSign neg x y H Q ∨ rIn X.K neg x y H Q) ∨ rInDN X.K neg x y H Q) (oIn neg) := by
  intro Z A O H σ m x y v w Q s r1 r2 q
  have seq : ∀ ds m', itemsOf y m = .ok ds m' → RP X.K X.mg W (rD X.K) Z σ A O H Q (if flatD x = true ∧ ds.all flatD = true then .ok (.bl (if neg then !inD x ds else inD x ds)) m' else if (okEq x = true ∧ okEq (.lst ds) = true) ∧ lstD y = true then .ok (.bl (if neg then !inDD x ds else inDD x ds)) m' else .stuck) → (rSign neg v w H Q ∨ rIn X.K neg v w H Q) ∨ rInDN X.K neg v w H Q := fun ds m' ei q2 => by
    obtain ⟨em, -⟩ := items_sq s r2 ei
    subst em
    by_cases hd : (okEq x = true ∧ okEq (.lst ds) = true) ∧ lstD y = true
    · by_cases hc : flatD x = true ∧ ds.all flatD = true
      · obtain ⟨-, a, xs, rfl, hx, rx⟩ := items_sq s r2 ei
        rw [if_pos hc] at q2
        obtain ⟨e, f⟩ := flat_toV r1 hc.1
        obtain ⟨g1, g2⟩ := flats_toV rx hc.2
        refine .inl (.inr ⟨a, xs, rfl, hx, f, g1, ?_⟩)
        rw [e, g2 x hc.1]
        exact q2.ret s (.bl _)
      · rw [if_neg hc, if_pos hd] at q2
        obtain ⟨⟨h1, h2⟩, h3⟩ := hd
        obtain ⟨a, xs, rfl, hx, rx⟩ := items_sqL s r2 ei h3
        have hl : PyData.canLayAll0 (pys ds) = true := by
          have := SeqAt.canLay_of_shaped h2
          rw [py] at this
          simpa [PyData.canLay0] using this
        refine .inr ⟨py x, pys ds, Rep.dp (SeqAt.canLay_of_shaped h1) r1, .lst hx (Reps.dps hl rx), h1, by have := h2; unfold okEq at this; rw [py] at this; exact this, ?_⟩
        rw [inDD_pys]
        exact q2.ret s (.bl _)
    · rw [if_neg hd] at q2
      obtain ⟨-, a, xs, rfl, hx, rx⟩ := items_sq s r2 ei
      refine .inl ?_
      by_cases hc : flatD x = true ∧ ds.all flatD = true
      · rw [if_pos hc] at q2
        obtain ⟨e, f⟩ := flat_toV r1 hc.1
        obtain ⟨g1, g2⟩ := flats_toV rx hc.2
        refine .inr ⟨a, xs, rfl, hx, f, g1, ?_⟩
        rw [e, g2 x hc.1]
        exact q2.ret s (.bl _)
      · rw [if_neg hc] at q2
        exact q2.elim
  cases y with
  | str z =>
    rcases r2 with r2 | ⟨ds, a, xs, e, _⟩
    · cases r2
      cases r1 with
      | str t =>
        by_cases hz : t.cps.size = 1
        · simp only [oIn, if_pos hz] at q
          exact .inl (.inl ⟨_, z, by rw [← one_sign hz], rfl, q.ret s (.bl _)⟩)
        · simp only [oIn, if_neg hz] at q
          exact q.elim
      | _ => exact q.elim
    · cases e
  | tup ds => exact seq ds m rfl q
  | lst ds => exact seq ds m rfl q
  | ro ds => exact seq ds m rfl q
  | loc n =>
    cases ei : itemsOf (.loc n) m with
    | ok ds m' => simp only [oIn, ei] at q; exact seq ds m' ei q
    | exc x m' => exact (items_exc ei).elim
    | stuck => simp only [oIn, ei] at q; exact q.elim
  | _ => exact q.elim
theorem op_inA : OpR X (compareOp .In) (fun x y H Q => rSign false x y H Q ∨ rIn X.K false x y H Q) := OpR.or (r := rSign false) op_in_sign op_in_seq
theorem op_ninA : OpR X (compareOp .NotIn) (fun x y H Q => rSign true x y H Q ∨ rIn X.K true x y H Q) := OpR.or (r := rSign true) op_notIn_sign op_notIn_seq
theorem hu65 {k : Nat} {A : Around} (r : Room k A) : A.units + 65 < cLine := by have := r.un; omega
theorem op_inX (hu : X.A.units + 65 < cLine) : OpR X (compareOp .In) (fun x y H Q => (rSign false x y H Q ∨ rIn X.K false x y H Q) ∨ rInDN X.K false x y H Q) := op_inA.or (op_inD hu)
theorem op_ninX (hu : X.A.units + 65 < cLine) : OpR X (compareOp .NotIn) (fun x y H Q => (rSign true x y H Q ∨ rIn X.K true x y H Q) ∨ rInDN X.K true x y H Q) := op_ninA.or (op_notInD hu)
/-- a comparison whose right operand may be a list of the frame's own -/
theorem de_cmpR {op : CmpOp} {r : R2} {k : D → D → Ms → Res D} (ho : OpR X (compareOp op) r) (hr : BinR X.K X.mg W r k) (ha : DE X W a f) {f' : Ms → Res D} (hb : DB X W b f')
    (hm : behindInMarks op b = false := by first | exact nomark _ | rfl) : DE X W (.Compare a [op] [b] pos) (e2 k f f') := by
  refine PE.imp (pe_cmpR ho ha hb hm) fun σ H Q ⟨Z, A, O, m, s, q⟩ => ⟨Z, A, O, m, s, RP.bind q fun v x m1 A1 O1 H1 ev1 s1 r1 q1 => ⟨Z, A1, O1, m1, s1, RP.bind q1 fun w y m2 A2 O2 H2 ev2 s2 r2 q2 => ?_⟩⟩
  exact hr Z A2 O2 H2 σ m2 x y v w Q s2 (r1.carry ev2.carry) r2 q2
theorem dt_cmpR {op : CmpOp} {r : R2} {k : D → D → Ms → Res D} (ho : OpR X (compareOp op) r) (hr : BinR X.K X.mg W r k) (ha : DE X W a f) {f' : Ms → Res D} (hb : DB X W b f')
    (hm : behindInMarks op b = false := by first | exact nomark _ | rfl) : DT X W (.Compare a [op] [b] pos) (tOf (e2 k f f')) := by
  refine PT.imp (pt_cmpR ho ha hb hm) fun σ H Q q => ?_
  obtain ⟨Z, A, O, m, s, q⟩ := tOf_G q
  exact ⟨Z, A, O, m, s, RP.bind q fun v x m1 A1 O1 H1 ev1 s1 r1 q1 => ⟨Z, A1, O1, m1, s1, RP.bind q1 fun w y m2 A2 O2 H2 ev2 s2 r2 q2 => hr Z A2 O2 H2 σ m2 x y v w _ s2 (r1.carry ev2.carry) r2 q2⟩⟩

/-! ### truth -/
def oTru (d : D) (m : Ms) : Res Bool := match d with
  | .non => .ok false m
  | .bl b => .ok b m
  | .int i => .ok (i != 0) m
  | .str z => if z.length ≤ 16777216 then .ok ((z.length : Int) != 0) m else .stuck
  | d => (itemsOf d m).bind fun ds m1 => .ok (!ds.isEmpty) m1
theorem Reps.empty {K : PySem.W.Frag} {A B : List Addr} {H : Hp} {xs : List V} {ds : List D} (r : Reps K A B H xs ds) : xs.isEmpty = ds.isEmpty := by cases r <;> rfl
theorem tru_okD {Z A : List Addr} {O : Ow} {H : Hp} {σ : L2.St} {m : Ms} {d : D} {v : V} {Q : Bool → Hp → Prop} (s : RS X.K Z A O H σ m) (r : rW X.K A (bad A O Z) H v d) (q : RP X.K X.mg W rB Z σ A O H Q (oTru d m)) : ∃ k, TruV X.K v H k ∧ Q k H := by
  have seq : ∀ ds m', itemsOf d m = .ok ds m' → RP X.K X.mg W rB Z σ A O H Q (.ok (!ds.isEmpty) m') → ∃ k, TruV X.K v H k ∧ Q k H := fun ds m' ei q2 => by
    obtain ⟨rfl, a, xs, rfl, hx, rx⟩ := items_sq s r ei
    refine ⟨!xs.isEmpty, ?_, by rw [rx.empty]; exact q2.ret s rfl⟩
    rcases hx with hx | hx
    · exact .inl ⟨xs, hx, rfl⟩
    · exact .inr (.inl ⟨xs, hx, rfl⟩)
  have sc : ∀ ds a xs, ¬ (d = .lst ds ∧ v = V.ref a ∧ H a = some (.lst xs) ∧ Reps X.K A (bad A O Z) H xs ds) ∨ ∃ es, d = .lst es := fun ds a xs => by
    cases d with
    | lst es => exact .inr ⟨es, rfl⟩
    | _ => exact .inl fun z => nomatch z.1
  cases d with
  | non =>
    rcases r with r | ⟨ds, a, xs, e, _⟩
    · cases r; exact ⟨_, rfl, q.ret s rfl⟩
    · cases e
  | bl b =>
    rcases r with r | ⟨ds, a, xs, e, _⟩
    · cases r; exact ⟨_, rfl, q.ret s rfl⟩
    · cases e
  | int i =>
    rcases r with r | ⟨ds, a, xs, e, _⟩
    · cases r; exact ⟨_, rfl, q.ret s rfl⟩
    · cases e
  | str z =>
    rcases r with r | ⟨ds, a, xs, e, _⟩
    · cases r
      by_cases hz : z.length ≤ 16777216
      · simp only [oTru, if_pos hz] at q
        exact ⟨_, ⟨lim_le hz, rfl⟩, q.ret s rfl⟩
      · simp only [oTru, if_neg hz] at q
        exact q.elim
    · cases e
  | tup ds => exact seq ds m rfl q
  | lst ds => exact seq ds m rfl q
  | ro ds => exact seq ds m rfl q
  | loc n =>
    cases ei : itemsOf (.loc n) m with
    | ok ds m' => simp only [oTru, ei] at q; exact seq ds m' ei q
    | exc x m' => exact (items_exc ei).elim
    | stuck => simp only [oTru, ei] at q; exact q.elim
def tTru (f : Ms → Res D) (m : Ms) : Res Bool := (f m).bind oTru
theorem dt_truth (ha : DB X W a f) (he : ∀ whole, isTrue a X.env whole = (do let v ← whole; standAt a.pos; holding [v] (truthy v)) := by intro _; rfl) : DT X W a (tTru f) :=
  PT.imp (pt_truth ha he) fun σ H Q ⟨Z, A, O, m, s, q⟩ => ⟨Z, A, O, m, s, RP.bind q fun v d m1 A1 O1 H1 ev1 s1 r1 q1 => tru_okD s1 r1 q1⟩

/-! ### isinstance -/
def tyD : D → String
  | .non => "NoneType" | .bl _ => "bool" | .int _ => "int" | .str _ => "str" | .tup _ => "tuple" | .lst _ => "list" | .ro _ => "list" | .loc _ => "list"
theorem tyX_D {Z A : List Addr} {O : Ow} {H : Hp} {σ : L2.St} {m : Ms} {d : D} {v : V} {K : PySem.W.Frag} (s : RS K Z A O H σ m) (r : rW K A (bad A O Z) H v d) (hl : ∀ n, d = .loc n → n < m.S.length) : TyX K H v (.type (tyD d)) := by
  rcases r with r | ⟨ds, a, xs, rfl, rfl, hx, _⟩
  · cases r with
    | non => exact .base .non
    | bl b => exact .base (.bl b)
    | int i => exact .base (.int i)
    | str x => exact .base (.str x)
    | tup h1 _ =>
      rcases h1 with ⟨h1, _⟩ | ⟨o, its, n, h1, h2, _⟩
      · exact .base (.tup h1)
      · exact .kTuple h1 h2
    | lst h1 _ => exact .base (.lst h1.1)
    | ro h1 _ =>
      rcases h1 with ⟨o, h1, _⟩ | ⟨o, its, n, h1, h2, _⟩
      · exact .base (.frz h1)
      · exact .kList h1 h2
    | @loc a n h1 =>
      have hn := hl n rfl
      obtain ⟨b, eb, z⟩ := s.sim.obj n m.S[n] (List.getElem?_eq_getElem hn)
      rw [h1] at eb
      cases eb
      cases es : m.S[n] with
      | lst ds => rw [es] at z; obtain ⟨xs, ex, _⟩ := z; exact .base (.lst ex)
  · exact .base (.lst hx)
end
end Wd

namespace Wd
open PySem PySem.Spec PyProof.Rows L2

/-! ### isinstance -/
inductive T5 where
  | int | bool | str | list | tuple
def T5.nm : T5 → String
  | .int => "int" | .bool => "bool" | .str => "str" | .list => "list" | .tuple => "tuple"
def isT : T5 → D → Bool
  | .int, .int _ => true
  | .int, .bl _ => true
  | .bool, .bl _ => true
  | .str, .str _ => true
  | .list, .lst _ => true
  | .list, .ro _ => true
  | .list, .loc _ => true
  | .tuple, .tup _ => true
  | _, _ => false
theorem kit_tab : (["NoneType", "bool", "int", "str", "tuple", "list"].map fun a => ["int", "bool", "str", "list", "tuple"].map fun b => kitB a b) =
    [[some false, some false, some false, some false, some false], [some true, some true, some false, some false, some false], [some true, some false, some false, some false, some false],
     [some false, some false, some true, some false, some false], [some false, some false, some false, some false, some true], [some false, some false, some false, some true, some false]] := by decide +kernel
theorem kit_T (t : T5) (d : D) : kitB (tyD d) t.nm = some (isT t d) := by
  have h := kit_tab
  simp only [List.map_cons, List.map_nil, List.cons.injEq, and_true] at h
  obtain ⟨⟨a1, a2, a3, a4, a5⟩, ⟨b1, b2, b3, b4, b5⟩, ⟨c1, c2, c3, c4, c5⟩, ⟨d1, d2, d3, d4, d5⟩, ⟨e1, e2, e3, e4, e5⟩, ⟨f1, f2, f3, f4, f5⟩⟩ := h
  cases d <;> cases t
  · exact a1
  · exact a2
  · exact a3
  · exact a4
  · exact a5
  · exact b1
  · exact b2
  · exact b3
  · exact b4
  · exact b5
  · exact c1
  · exact c2
  · exact c3
  · exact c4
  · exact c5
  · exact d1
  · exact d2
  · exact d3
  · exact d4
  · exact d5
  · exact e1
  · exact e2
  · exact e3
  · exact e4
  · exact e5
  · exact f1
  · exact f2
  · exact f3
  · exact f4
  · exact f5
  · exact f1
  · exact f2
  · exact f3
  · exact f4
  · exact f5
  · exact f1
  · exact f2
  · exact f3
  · exact f4
  · exact f5
theorem kitAny_T {K : PySem.W.Frag} (d : D) : ∀ ts : List T5, PySem.W.kitAny K (.type (tyD d)) (ts.map fun t => .type t.nm) = some (ts.any fun t => isT t d)
  | [] => rfl
  | t :: ts => by
    refine kitAny_cons (kit_ty (kit_T t d)) (fun h => ?_) fun h => ?_
    · rw [List.any_cons, h, Bool.false_or]
      exact kitAny_T d ts
    · rw [List.any_cons, h, Bool.true_or]
theorem clsV_all : ∀ ts : List T5, Paired ClsV (ts.map fun t => V.ty t.nm) (ts.map fun t => Value.type t.nm)
  | [] => .nil
  | t :: ts => .cons (.ty _) (clsV_all ts)
/-- expressions that are built-in types -/
def TyEs (X : Cx) (es : List Expr) (ts : List T5) : Prop := PA X es fun σ H Q => Q (ts.map fun t => .ty t.nm) H
section
variable {X : Cx} {W : WX} {e a b c : Expr} {es rest : List Expr} {pos : Pos} {f g h : Ms → Res D} {fq : Ms → Res (List D)}
theorem ty_nil : TyEs X [] [] := PA.imp pa_nil fun σ H Q q => q
theorem ty_cons (t : T5) {x : Str} {p : Pos} {ts : List T5} (hm : X.mg x = none) (hv : bootBuiltins x = some (.type t.nm)) (hr : TyEs X es ts) (hg : Gl X x := by rfl) (hn : x ≠ "__name__" := by decide) (hd : (x == ("__debug__" : Str)) = false := by decide)
    (hs : starEach (.Name x p :: es) X.env = (false, eval (.Name x p) X.env) :: starEach es X.env := by rfl) : TyEs X (.Name x p :: es) (t :: ts) :=
  PA.imp (pa_cons (pe_bltn (v := .ty t.nm) hg hm hv rfl hn hd) hr hs) fun σ H Q q => q
def oIsi (ts : List T5) (d : D) (m : Ms) : Res D := .ok (.bl (ts.any fun t => isT t d)) m
theorem loc_lt {Z A : List Addr} {O : Ow} {H : Hp} {σ : L2.St} {m : Ms} {d : D} {v : V} {K : PySem.W.Frag} (s : RS K Z A O H σ m) (r : rW K A (bad A O Z) H v d) : ∀ n, d = .loc n → n < m.S.length := fun n e => by
  subst e
  rcases r with r | ⟨ds, a, xs, e, _⟩
  · cases r with
    | loc h => rw [← s.sim.len]; exact (List.getElem?_eq_some_iff.mp h).1
  · cases e
theorem de_isi (t : T5) {x : Str} {p p2 : Pos} (hm : X.mg "isinstance" = none) (hx : X.mg x = none) (hv : bootBuiltins x = some (.type t.nm)) (ha : DB X W e f) (hg : Gl X "isinstance" := by rfl) (hgx : Gl X x := by rfl) (hn : x ≠ "__name__" := by decide) (hd : (x == ("__debug__" : Str)) = false := by decide)
    (hs1 : starEach [.Name x p2] X.env = (false, eval (.Name x p2) X.env) :: starEach [] X.env := by rfl)
    (hs : starEach [e, .Name x p2] X.env = (false, eval e X.env) :: starEach [.Name x p2] X.env := by rfl) (hpl : (backTo pos (starEach [.Name x p2] X.env)).any (·.1) = false := by rfl) :
    DE X W (.Call (.Name "isinstance" p) [e, .Name x p2] [] pos) (e1 (oIsi [t]) f) := by
  refine PE.imp (pe_callB call_isi hg hm boot_isinstance (pa_cons ha (ty_cons t hx hv ty_nil hgx hn hd hs1) hs) (by decide) (by decide) hs hpl) fun σ H Q ⟨Z, A, O, m, s, q⟩ => ⟨Z, A, O, m, s, RP.bind q fun v d m1 A1 O1 H1 ev1 s1 r1 q1 => ?_⟩
  refine ⟨v, .ty t.nm, .type (tyD d), .type t.nm, isT t d, rfl, .ty _, tyX_D s1 r1 (loc_lt s1 r1), kit_ty (kit_T t d), ?_⟩
  have q1' : RP X.K X.mg W (rD X.K) Z σ A1 O1 H1 Q (.ok (.bl ([t].any fun t => isT t d)) m1) := q1
  rw [List.any_cons, List.any_nil, Bool.or_false] at q1'
  exact q1'.ret s1 (.bl _)
theorem de_isiT {ts : List T5} {n : Nat} {p p2 : Pos} (hm : X.mg "isinstance" = none) (ha : DB X W e f) (ht : TyEs X es ts) (hl : ts.length ≤ 100 := by decide) (hg : Gl X "isinstance" := by rfl)
    (hs1 : starEach [.Tuple es n p2] X.env = (false, eval (.Tuple es n p2) X.env) :: starEach [] X.env := by rfl)
    (hs : starEach [e, .Tuple es n p2] X.env = (false, eval e X.env) :: starEach [.Tuple es n p2] X.env := by rfl) (hpl : (backTo pos (starEach [.Tuple es n p2] X.env)).any (·.1) = false := by rfl) :
    DE X W (.Call (.Name "isinstance" p) [e, .Tuple es n p2] [] pos) (e1 (oIsi ts) f) := by
  refine PE.imp (pe_callB call_isiT hg hm boot_isinstance (pa_cons ha (pa_cons (pe_tup ht) pa_nil hs1) hs) (by decide) (by decide) hs hpl) fun σ H Q ⟨Z, A, O, m, s, q⟩ => ⟨Z, A, O, m, s, RP.bind q fun v d m1 A1 O1 H1 ev1 s1 r1 q1 => ?_⟩
  refine ⟨by rw [List.length_map]; exact lim_le (Nat.le_trans hl (by decide)), fun tp hp => ?_⟩
  have s2 := s1.new (o := .tup (ts.map fun t => .ty t.nm)) hp
  have gr := upd_grow (o := .tup (ts.map fun t => V.ty t.nm)) hp
  have r2 : rW X.K A1 (bad A1 O1 Z) (upd H1 tp (.tup (ts.map fun t => .ty t.nm))) v d := by
    rcases r1 with r | ⟨ds, a, xs, e1, e2, hx, rx⟩
    · exact .inl (r.carry (.grow (fun _ h => .inl h) gr))
    · exact .inr ⟨ds, a, xs, e1, e2, gr _ _ hx, rx.carry (.grow (fun _ h => .inl h) gr)⟩
  refine ⟨v, tp, ts.map fun t => .ty t.nm, .type (tyD d), ts.map fun t => .type t.nm, ts.any fun t => isT t d, rfl, upd_same, ?_, tyX_D s2 r2 (loc_lt s1 r1), kitAny_T d ts, q1.retE (.new hp) s2 (.bl _)⟩
  exact clsV_all ts

/-! ### small built-ins -/
def cInt (ds : List D) (m : Ms) : Res D := match ds with
  | [.int i] => .ok (.int i) m
  | [.bl b] => .ok (.int (if b then 1 else 0)) m
  | _ => .stuck
theorem reps1 {K : PySem.W.Frag} {A B : List Addr} {H : Hp} {vs : List V} {d : D} (r : Reps K A B H vs [d]) : ∃ v, vs = [v] ∧ Rep K A B H v d := by
  cases r with
  | cons r1 r2 => cases r2; exact ⟨_, rfl, r1⟩
theorem reps2 {K : PySem.W.Frag} {A B : List Addr} {H : Hp} {vs : List V} {d d' : D} (r : Reps K A B H vs [d, d']) : ∃ v v', vs = [v, v'] ∧ Rep K A B H v d ∧ Rep K A B H v' d' := by
  cases r with
  | cons r1 r2 =>
    obtain ⟨w, rfl, r3⟩ := reps1 r2
    exact ⟨_, _, rfl, r1, r3⟩
theorem cal_int : CalS X.K X.mg W (fun xs H Q => (∃ i, xs = [.int i] ∧ Q (.int i) H) ∨ ∃ k, xs = [.bl k] ∧ Q (.int (if k then 1 else 0)) H) cInt := by
  intro Z A O H σ m xs vs Q s r q
  unfold cInt at q
  split at q
  · obtain ⟨v, rfl, r1⟩ := reps1 r
    cases r1
    exact .inl ⟨_, rfl, q.ret s (.int _)⟩
  · obtain ⟨v, rfl, r1⟩ := reps1 r
    cases r1
    exact .inr ⟨_, rfl, q.ret s (.int _)⟩
  · exact q.elim
def cMin (ds : List D) (m : Ms) : Res D := match ds with
  | [.int i, .int j] => .ok (.int (if j < i then j else i)) m
  | _ => .stuck
def cMax (ds : List D) (m : Ms) : Res D := match ds with
  | [.int i, .int j] => .ok (.int (if j > i then j else i)) m
  | _ => .stuck
theorem cal_min : CalS X.K X.mg W (fun xs H Q => ∃ i j, xs = [.int i, .int j] ∧ Q (.int (if j < i then j else i)) H) cMin := by
  intro Z A O H σ m xs vs Q s r q
  unfold cMin at q
  split at q
  · obtain ⟨v, w, rfl, r1, r2⟩ := reps2 r
    cases r1
    cases r2
    exact ⟨_, _, rfl, q.ret s (.int _)⟩
  · exact q.elim
theorem cal_max : CalS X.K X.mg W (fun xs H Q => ∃ i j, xs = [.int i, .int j] ∧ Q (.int (if j > i then j else i)) H) cMax := by
  intro Z A O H σ m xs vs Q s r q
  unfold cMax at q
  split at q
  · obtain ⟨v, w, rfl, r1, r2⟩ := reps2 r
    cases r1
    cases r2
    exact ⟨_, _, rfl, q.ret s (.int _)⟩
  · exact q.elim
def oTupOf (d : D) (m : Ms) : Res D := (itemsOf d m).bind fun ds m1 => .ok (.tup ds) m1
theorem de_tuple {p : Pos} (hm : X.mg "tuple" = none) (ha : DB X W e f) (hg : Gl X "tuple" := by rfl) (he : starEach [e] X.env = (false, eval e X.env) :: starEach [] X.env := by rfl) : DE X W (.Call (.Name "tuple" p) [e] [] pos) (e1 oTupOf f) := by
  refine PE.imp (pe_callTy call_tuple_of hg hm boot_tuple (pa_cons ha pa_nil he) (by decide) (by decide) he rfl) fun σ H Q ⟨Z, A, O, m, s, q⟩ => ⟨Z, A, O, m, s, RP.bind q fun v d m1 A1 O1 H1 ev1 s1 r1 q1 => ?_⟩
  have lst : ∀ ds a xs, v = .ref a → SqL X.K H1 a xs → Reps X.K A1 (bad A1 O1 Z) H1 xs ds → RP X.K X.mg W (rD X.K) Z σ A1 O1 H1 Q (.ok (.tup ds) m1) → ∃ p ys, [v] = [.ref p] ∧ ((SqL X.K H1 p ys ∧ ∀ l, H1 l = none → Q (.ref l) (upd H1 l (.tup ys))) ∨ (SqT X.K H1 p ys ∧ Q (.ref p) H1)) := fun ds a xs ev hx rx q4 =>
    ⟨a, xs, by rw [ev], .inl ⟨hx, fun p hp => q4.retE (.new hp) (s1.new hp) (Rep.newTup s1 hp rx)⟩⟩
  rcases r1 with r1 | ⟨ds, a, xs, rfl, rfl, hx, rx⟩
  · cases r1 with
    | @tup a xs ds h1 h2 => exact ⟨a, xs, rfl, .inr ⟨h1.sq, q1.ret s1 (.tup h1 h2)⟩⟩
    | @lst a xs ds h1 h2 => exact lst ds a xs rfl h1.sq h2 q1
    | @ro a xs ds h1 h2 => exact lst ds a xs rfl h1.sq h2 q1
    | @loc a n h1 =>
      simp only [oTupOf, itemsOf] at q1
      cases es : m1.S[n]? with
      | none => rw [es] at q1; exact q1.elim
      | some o =>
        rw [es] at q1
        cases o with
        | lst ds =>
          obtain ⟨b, eb, xs, ex, rx⟩ := s1.sim.obj n _ es
          rw [h1] at eb
          cases eb
          exact lst ds a xs rfl (.inl (.inl ex)) rx q1
    | _ => exact q1.elim
  · exact lst ds a xs rfl (.inl (.inl hx)) rx q1
theorem dn_list {p : Pos} (hm : X.mg "list" = none) (ha : DQ X W e fq) (hg : Gl X "list" := by rfl) (he : starEach [e] X.env = (false, eval e X.env) :: starEach [] X.env := by rfl) : DN X W (.Call (.Name "list" p) [e] [] pos) fq := by
  refine PE.imp (pe_callTy call_list_of hg hm boot_list (pa_cons ha pa_nil he) (by decide) (by decide) he rfl) fun σ H Q ⟨Z, A, O, m, s, q⟩ => ⟨Z, A, O, m, s, ?_⟩
  cases y : fq m with
  | ok ds m1 =>
    rw [y] at q
    intro v A1 O1 H1 ev s1 ⟨a, xs, ea, hx, rx⟩
    exact ⟨a, xs, by rw [ea], hx, fun l hl => q xs A1 O1 H1 ev s1 rx l hl⟩
  | exc x m' => rw [y] at q; exact q
  | stuck => rw [y] at q; exact q
/-- a list that may be read, no tuple -/
def rLt (K : PySem.W.Frag) : Rl V (List D) := fun A B H v ds => ∃ (a : Addr) (xs : List V), v = .ref a ∧ SqL K H a xs ∧ Reps K A B H xs ds
abbrev DL (X : Cx) (W : WX) (e : Expr) (f : Ms → Res (List D)) : Prop := PE X e (tG X.K X.mg W (rLt X.K) f)
theorem dl_new (h : DN X W e fq) : DL X W e fq := by
  refine PE.imp h fun σ H Q ⟨Z, A, O, m, s, q⟩ => ⟨Z, A, O, m, s, ?_⟩
  cases y : fq m with
  | ok ds m1 =>
    rw [y] at q
    exact fun xs A1 O1 H1 ev s1 r p hp => q _ A1 O1 _ (ev.trans (.new hp)) (s1.new hp) ⟨p, xs, rfl, .inl (.inl upd_same), r.carry (.grow (fun _ h => .inl h) (upd_grow hp))⟩
  | exc x m' => rw [y] at q; exact q
  | stuck => rw [y] at q; exact q
/-- the items of a list -/
def lstOf (d : D) (m : Ms) : Res (List D) := match d with
  | .tup _ => .stuck
  | d => itemsOf d m
theorem lst_sq {Z A : List Addr} {O : Ow} {H : Hp} {σ : L2.St} {m m' : Ms} {d : D} {v : V} {ds : List D} {K : PySem.W.Frag} (s : RS K Z A O H σ m) (r : rW K A (bad A O Z) H v d) (e : lstOf d m = .ok ds m') : m' = m ∧ rLt K A (bad A O Z) H v ds := by
  rcases r with r | ⟨es, a, xs, rfl, rfl, ex, rx⟩
  · cases r with
    | tup h1 h2 => cases e
    | lst h1 h2 => cases e; exact ⟨rfl, _, _, rfl, h1.sq, h2⟩
    | ro h1 h2 => cases e; exact ⟨rfl, _, _, rfl, h1.sq, h2⟩
    | @loc a n h1 =>
      simp only [lstOf, itemsOf] at e
      cases q : m.S[n]? with
      | none => rw [q] at e; cases e
      | some o =>
        rw [q] at e
        cases o with
        | lst es =>
          cases e
          obtain ⟨b, eb, xs, ex, rx⟩ := s.sim.obj n _ q
          rw [h1] at eb
          cases eb
          exact ⟨rfl, a, xs, rfl, .inl (.inl ex), rx⟩
    | _ => cases e
  · cases e
    exact ⟨rfl, a, xs, rfl, .inl (.inl ex), rx⟩
theorem lst_exc {d : D} {m m' : Ms} {x : Ex} (e : lstOf d m = .exc x m') : False := by
  unfold lstOf at e
  split at e
  · cases e
  · exact items_exc e
theorem dl_of (h : DB X W e f) : DL X W e fun m => (f m).bind lstOf := by
  refine PE.imp h fun σ H Q ⟨Z, A, O, m, s, q⟩ => ⟨Z, A, O, m, s, RP.bind q fun v d m1 A1 O1 H1 ev s1 r q1 => ?_⟩
  cases y : lstOf d m1 with
  | ok ds m' =>
    rw [y] at q1
    obtain ⟨rfl, z⟩ := lst_sq s1 r y
    exact q1.ret s1 z
  | exc x m' => exact (lst_exc y).elim
  | stuck => rw [y] at q1; exact q1.elim
def intsOf : List D → Option (List Int)
  | [] => some []
  | .int i :: ds => (intsOf ds).map (i :: ·)
  | _ :: _ => none
def blsOf : List D → Option (List Bool)
  | [] => some []
  | .bl i :: ds => (blsOf ds).map (i :: ·)
  | _ :: _ => none
theorem intsOf_rep {K : PySem.W.Frag} {A B : List Addr} {H : Hp} : ∀ {ds : List D} {vs : List V} {ns : List Int}, Reps K A B H vs ds → intsOf ds = some ns → vs = ns.map V.int
  | _, _, ns, .nil, e => by simp [intsOf] at e; subst e; rfl
  | _, _, ns, .cons r t, e => by
    cases r with
    | int i =>
      rw [intsOf] at e
      cases q : intsOf _ with
      | none => rw [q] at e; cases e
      | some ms => rw [q] at e; cases e; rw [intsOf_rep t q]; rfl
    | _ => simp [intsOf] at e
theorem blsOf_rep {K : PySem.W.Frag} {A B : List Addr} {H : Hp} : ∀ {ds : List D} {vs : List V} {ns : List Bool}, Reps K A B H vs ds → blsOf ds = some ns → vs = ns.map V.bl
  | _, _, ns, .nil, e => by simp [blsOf] at e; subst e; rfl
  | _, _, ns, .cons r t, e => by
    cases r with
    | bl i =>
      rw [blsOf] at e
      cases q : blsOf _ with
      | none => rw [q] at e; cases e
      | some ms => rw [q] at e; cases e; rw [blsOf_rep t q]; rfl
    | _ => simp [blsOf] at e
theorem reps_ints {K : PySem.W.Frag} {A B : List Addr} {H : Hp} : ∀ ns : List Int, Reps K A B H (ns.map V.int) (ns.map D.int)
  | [] => .nil
  | n :: ns => .cons (.int n) (reps_ints ns)
def oAll (ds : List D) (m : Ms) : Res D := match blsOf ds with
  | some bs => .ok (.bl (bs.all id)) m
  | none => .stuck
def oAny (ds : List D) (m : Ms) : Res D := match blsOf ds with
  | some bs => .ok (.bl (bs.any id)) m
  | none => .stuck
def e1q (g : List D → Ms → Res D) (f : Ms → Res (List D)) (m : Ms) : Res D := (f m).bind g
theorem de_all {p : Pos} (hc : X.calm = true) (hm : X.mg "all" = none) (ha : DL X W e fq) (hg : Gl X "all" := by rfl) (he : starEach [e] X.env = (false, eval e X.env) :: starEach [] X.env := by rfl) : DE X W (.Call (.Name "all" p) [e] [] pos) (e1q oAll fq) := by
  refine PE.imp (pe_callB (cr_all hc) hg hm boot_all (pa_cons ha pa_nil he) (by decide) (by decide) he rfl) fun σ H Q ⟨Z, A, O, m, s, q⟩ => ⟨Z, A, O, m, s, RP.bind q fun v ds m1 A1 O1 H1 ev1 s1 ⟨a, xs, ea, hx, rx⟩ q1 => ?_⟩
  subst ea
  cases eb : blsOf ds with
  | none => simp only [oAll, eb] at q1; exact q1.elim
  | some bs =>
    simp only [oAll, eb] at q1
    have := blsOf_rep rx eb
    subst this
    exact ⟨a, bs, rfl, hx, q1.ret s1 (.bl _)⟩
theorem de_any {p : Pos} (hc : X.calm = true) (hm : X.mg "any" = none) (ha : DL X W e fq) (hg : Gl X "any" := by rfl) (he : starEach [e] X.env = (false, eval e X.env) :: starEach [] X.env := by rfl) : DE X W (.Call (.Name "any" p) [e] [] pos) (e1q oAny fq) := by
  refine PE.imp (pe_callB (cr_any hc) hg hm boot_any (pa_cons ha pa_nil he) (by decide) (by decide) he rfl) fun σ H Q ⟨Z, A, O, m, s, q⟩ => ⟨Z, A, O, m, s, RP.bind q fun v ds m1 A1 O1 H1 ev1 s1 ⟨a, xs, ea, hx, rx⟩ q1 => ?_⟩
  subst ea
  cases eb : blsOf ds with
  | none => simp only [oAny, eb] at q1; exact q1.elim
  | some bs =>
    simp only [oAny, eb] at q1
    have := blsOf_rep rx eb
    subst this
    exact ⟨a, bs, rfl, hx, q1.ret s1 (.bl _)⟩
/-- sorted ints -/
def sortI (ns : List Int) : List Int := ns.mergeSort fun a b => decide (a ≤ b)
theorem sortI_perm (ns : List Int) : (sortI ns).Perm ns := List.mergeSort_perm ns _
theorem sortI_le (ns : List Int) : (sortI ns).Pairwise (· ≤ ·) := by
  have h := List.pairwise_mergeSort (le := fun a b : Int => decide (a ≤ b)) (fun a b c h1 h2 => by simp only [decide_eq_true_eq] at *; omega) (fun a b => by simp only [Bool.or_eq_true, decide_eq_true_eq]; omega) ns
  exact h.imp fun h => of_decide_eq_true h
theorem sortI_of {ns ms : List Int} (hp : ms.Perm ns) (hs : ms.Pairwise (· ≤ ·)) : ms = sortI ns :=
  List.Perm.eq_of_pairwise (fun x y _ _ h1 h2 => Int.le_antisymm h1 h2) hs (sortI_le ns) (hp.trans (sortI_perm ns).symm)
def nSortI (ds : List D) (m : Ms) : Res (List D) := match intsOf ds with
  | some ns => .ok ((sortI ns).map D.int) m
  | none => .stuck
def n1q (g : List D → Ms → Res (List D)) (f : Ms → Res (List D)) (m : Ms) : Res (List D) := (f m).bind g
theorem dn_sortedI {p : Pos} (hm : X.mg "sorted" = none) (ha : DL X W e fq) (hg : Gl X "sorted" := by rfl) (he : starEach [e] X.env = (false, eval e X.env) :: starEach [] X.env := by rfl) : DN X W (.Call (.Name "sorted" p) [e] [] pos) (n1q nSortI fq) := by
  refine PE.imp (pe_callB cr_sortedI hg hm boot_sorted (pa_cons ha pa_nil he) (by decide) (by decide) he rfl) fun σ H Q ⟨Z, A, O, m, s, q⟩ => ⟨Z, A, O, m, s, RP.bind q fun v ds m1 A1 O1 H1 ev1 s1 ⟨a, xs, ea, hx, rx⟩ q1 => ?_⟩
  subst ea
  cases eb : intsOf ds with
  | none => simp only [nSortI, eb] at q1; exact q1.elim
  | some ns =>
    simp only [nSortI, eb] at q1
    have := intsOf_rep rx eb
    subst this
    refine ⟨a, ns, rfl, hx, fun ns' l h1 h2 hl => ?_⟩
    rw [sortI_of h1 h2]
    exact q1.ret s1 (reps_ints _) l hl
/-- the ints a .. b - 1 -/
def rgD (a b : Int) : List D := (List.range (b - a).toNat).map fun i => D.int (a + (i : Nat))
theorem reps_rg {K : PySem.W.Frag} {A B : List Addr} {H : Hp} (a b : Int) : Reps K A B H (rgV a b) (rgD a b) := by
  unfold rgV rgD
  generalize List.range (b - a).toNat = l
  induction l with
  | nil => exact .nil
  | cons x l ih => exact .cons (.int _) ih
def nRg1 (f : Ms → Res D) (m : Ms) : Res (List D) := (f m).bind fun d m1 => match d with
  | .int n => if -1000000 ≤ n ∧ n ≤ 1000000 then .ok (rgD 0 n) m1 else .stuck
  | _ => .stuck
theorem dn_listRg {p p2 pos2 : Pos} (hc : X.calm = true) (hm : X.mg "list" = none) (hr : X.mg "range" = none) (ha : DE X W e f) (hg : Gl X "list" := by rfl) (hgr : Gl X "range" := by rfl) (na : starEach [e] X.env = (false, eval e X.env) :: starEach [] X.env := by rfl)
    (na2 : starEach [.Call (.Name "range" p2) [e] [] pos2] X.env = (false, eval (.Call (.Name "range" p2) [e] [] pos2) X.env) :: starEach [] X.env := by rfl) : DN X W (.Call (.Name "list" p) [.Call (.Name "range" p2) [e] [] pos2] [] pos) (nRg1 f) := by
  refine PE.imp (pe_listRg hc hg hm (prg_1 hgr hr ha na) na2) fun σ H Q ⟨Z, A, O, m, s, q⟩ => ⟨Z, A, O, m, s, RP.bind q fun v d m1 A1 O1 H1 ev1 s1 r1 q1 => ?_⟩
  cases r1 with
  | int n =>
    by_cases hn : -1000000 ≤ n ∧ n ≤ 1000000
    · simp only [if_pos hn] at q1
      exact ⟨n, rfl, ⟨by omega, by omega, by omega, by omega, by omega⟩, q1.ret s1 (reps_rg 0 n)⟩
    · simp only [if_neg hn] at q1
      exact q1.elim
  | _ => exact q1.elim
/-- xs + ys, lists -/
def lstOf' (d : D) (m : Ms) : Res (List D) := match d with
  | .lst ds => .ok ds m
  | .loc n => itemsOf (.loc n) m
  | _ => .stuck
end
end Wd

namespace Wd
open PySem PySem.Spec PyProof.Rows L2

/-! ### lists that change -/
/-- a method of a list, by its arguments and its items: the answer, the items behind -/
def MutS (K : PySem.W.Frag) (r : V → List V → Hp → VK → Prop) (g : List D → List D → Option (D × List D)) : Prop :=
  ∀ (A B : List Addr) (H : Hp) (l : Addr) (xs : List V) (ds : List D) (vs : List V) (args : List D) (d : D) (es : List D) (Q : VK), H l = some (.lst xs) → Reps K A B H xs ds → Reps K A B H vs args → g args ds = some (d, es) →
    (∀ v ys, Reps K A B H ys es → Rep K A B H v d → Q v (upd H l (.lst ys))) → r (.ref l) vs H Q
/-- the list that slot i holds (its own, or one of the store) is changed -/
def chg (i : Nat) (k : List D → Option (D × List D)) (m : Ms) : Res D := match m.r[i]? with
  | some (.own ds) => (match k ds with
    | some (d, es) => .ok d ⟨m.r.set i (.own es), m.S⟩
    | none => .stuck)
  | some (.val (.loc n)) => (match m.S[n]? with
    | some (.lst ds) => (match k ds with
      | some (d, es) => .ok d ⟨m.r, m.S.set n (.lst es)⟩
      | none => .stuck)
    | none => .stuck)
  | _ => .stuck
def canChg (i : Nat) (m : Ms) : Bool := match m.r[i]? with
  | some (.own _) => true
  | some (.val (.loc _)) => true
  | _ => false
def eMut (i : Nat) (g : List D → List D → Option (D × List D)) (fs : Ms → Res (List D)) (m : Ms) : Res D := if canChg i m = true then (fs m).bind fun args m1 => chg i (g args) m1 else .stuck
section
variable {K : PySem.W.Frag} {mg : Str → Option Value} {W : WX} {Z A : List Addr} {O : Ow} {H : Hp} {σ : L2.St} {m : Ms}
/-- where a list that may be changed stands -/
theorem can_at (s : RS K Z A O H σ m) {i : Nat} (h : canChg i m = true) : ∃ l xs, σ[i]? = some (some (.ref l)) ∧ H l = some (.lst xs) := by
  cases e : m.r[i]? with
  | none => simp [canChg, e] at h
  | some x =>
    obtain ⟨v, o, e1, e2, sl⟩ := s.at e
    cases x with
    | un => simp [canChg, e] at h
    | own ds => obtain ⟨a, xs, _, rfl, hx, _⟩ := sl; exact ⟨a, xs, e1, hx⟩
    | val d =>
      obtain ⟨_, w, rfl, r⟩ := sl
      cases r with
      | @loc a n h1 =>
        have hn : n < m.S.length := by rw [← s.sim.len]; exact (List.getElem?_eq_some_iff.mp h1).1
        obtain ⟨b, eb, z⟩ := s.sim.obj n m.S[n] (List.getElem?_eq_getElem hn)
        rw [h1] at eb
        cases eb
        cases es : m.S[n] with
        | lst ds => rw [es] at z; obtain ⟨xs, ex, _⟩ := z; exact ⟨a, xs, e1, ex⟩
      | _ => simp [canChg, e] at h
theorem chg_ok (s : RS K Z A O H σ m) {i : Nat} {k : List D → Option (D × List D)} {l : Addr} (hl : σ[i]? = some (some (.ref l))) {Q : VK} (q : RP K mg W (rD K) Z σ A O H Q (chg i k m)) :
    ∃ xs ds d es, H l = some (.lst xs) ∧ Reps K A (bad A O Z) H xs ds ∧ k ds = some (d, es) ∧ ∀ v ys, Reps K A (bad A O Z) H ys es → Rep K A (bad A O Z) H v d → Q v (upd H l (.lst ys)) := by
  cases e : m.r[i]? with
  | none => simp only [chg, e] at q; exact q.elim
  | some x =>
    obtain ⟨v, o, e1, e2, sl⟩ := s.at e
    rw [hl] at e1
    cases e1
    cases x with
    | un => simp only [chg, e] at q; exact q.elim
    | own ds =>
      obtain ⟨a, xs, rfl, ea, hx, rx⟩ := sl
      cases ea
      simp only [chg, e] at q
      cases ek : k ds with
      | none => rw [ek] at q; exact q.elim
      | some p =>
        obtain ⟨d, es⟩ := p
        rw [ek] at q
        refine ⟨xs, ds, d, es, hx, rx, ek, fun v ys ry rv => ?_⟩
        have ev : Ev A O H A O (upd H l (.lst ys)) := .put (.inr (mem_own.mpr ⟨i, e2⟩)) hx
        exact q.retE ev (s.putOwn e e2 ry) (rv.carry ev.carry)
    | val d =>
      obtain ⟨_, w, ew, r⟩ := sl
      cases ew
      cases r with
      | @loc a n h1 =>
        simp only [chg, e] at q
        cases es : m.S[n]? with
        | none => rw [es] at q; exact q.elim
        | some ob =>
          rw [es] at q
          cases ob with
          | lst ds =>
            obtain ⟨b, eb, xs, ex, rx⟩ := s.sim.obj n _ es
            rw [h1] at eb
            cases eb
            simp only at q
            cases ek : k ds with
            | none => rw [ek] at q; exact q.elim
            | some p =>
              obtain ⟨d, fs⟩ := p
              rw [ek] at q
              refine ⟨xs, ds, d, fs, ex, rx, ek, fun v ys ry rv => ?_⟩
              have ev : Ev A O H A O (upd H l (.lst ys)) := .put (.inl (List.mem_of_getElem? h1)) ex
              exact q.retE ev (s.putLoc es h1 ry) (rv.carry ev.carry)
      | _ => simp only [chg, e] at q; exact q.elim
end
section
variable {X : Cx} {W : WX} {e a b c : Expr} {es rest : List Expr} {pos apos p : Pos} {f g h : Ms → Res D} {fs : Ms → Res (List D)}
theorem mut_ok {r : V → List V → Hp → VK → Prop} {k : List D → List D → Option (D × List D)} (hk : MutS X.K r k) {i : Nat} {σ : L2.St} {H : Hp} {Q : VK} (q : tG X.K X.mg W (rD X.K) (eMut i k fs) σ H Q) :
    tBM X.K "list" r (tVar i) (tG X.K X.mg W (rDs X.K) fs) σ H Q := by
  obtain ⟨Z, A, O, m, s, q⟩ := q
  by_cases hc : canChg i m = true
  · simp only [eMut, if_pos hc] at q
    obtain ⟨l, xs0, hl, hx0⟩ := can_at s hc
    refine ⟨_, hl, .inl ⟨rfl, _, .inl (.inl hx0)⟩, Z, A, O, m, s, RP.bind q fun vs args m1 A1 O1 H1 ev s1 r1 q1 => ?_⟩
    obtain ⟨xs, ds, d, es, hx, rx, ek, w⟩ := chg_ok s1 hl q1
    exact hk A1 _ H1 l xs ds vs args d es Q hx rx r1 ek w
  · simp only [eMut, if_neg hc] at q
    exact q.elim
theorem de_meth {id : String} {name : Str} {r : V → List V → Hp → VK → Prop} {k : List D → List D → Option (D × List D)} (slot : Slot "list" name id) (hty : typeOf (.builtin id) = pure (.type "method_descriptor")) (hm : MtR X id r) (hk : MutS X.K r k)
    (i : Nat) {x : Str} (ha : DA X W (e :: es) fs) (hN : X.N[i]? = some x := by rfl) (hv : Vis X.env.scope x := by first | exact Or.inl rfl | exact Or.inr (Or.inl rfl) | exact Or.inr (Or.inr rfl)) (hd : (x == ("__debug__" : Str)) = false := by decide)
    (hcd : (x == ("__classdict__" : Str)) = false := by decide)
    (hbase : attributeBase (.Name x p) name X.env (eval (.Name x p) X.env) = eval (.Name x p) X.env := by rfl)
    (hfew : ((backTo pos (starEach (e :: es) X.env)).all (fun x => !x.1) && (backToKw pos (keywordEach [] X.env)).all (fun x => x.1.isSome)
      && decide ((e :: es).length + ([] : List Keyword).length + (if ([] : List Keyword).isEmpty then 0 else 1) < 30)) = true := by rfl)
    (hline : (apos.endLine == pos.line) = true := by rfl) (hs : starEach (e :: es) X.env = (false, eval e X.env) :: starEach es X.env := by rfl) (hplain : (backTo pos (starEach es X.env)).any (·.1) = false := by rfl) :
    DE X W (.Call (.Attribute (.Name x p) name apos) (e :: es) [] pos) (eMut i k fs) :=
  PE.imp (pe_bm PySem.F.plainAttrs_list slot hty hm (pv i hN hv hd hcd) ha hbase hfew hline hs hplain) fun σ H Q q => mut_ok hk q
theorem de_meth0 {id : String} {name : Str} {r : V → List V → Hp → VK → Prop} {k : List D → List D → Option (D × List D)} (slot : Slot "list" name id) (hty : typeOf (.builtin id) = pure (.type "method_descriptor")) (hm : MtR X id r) (hk : MutS X.K r k)
    (i : Nat) {x : Str} (hN : X.N[i]? = some x := by rfl) (hv : Vis X.env.scope x := by first | exact Or.inl rfl | exact Or.inr (Or.inl rfl) | exact Or.inr (Or.inr rfl)) (hd : (x == ("__debug__" : Str)) = false := by decide)
    (hcd : (x == ("__classdict__" : Str)) = false := by decide)
    (hbase : attributeBase (.Name x p) name X.env (eval (.Name x p) X.env) = eval (.Name x p) X.env := by rfl) (hline : (apos.endLine == pos.line) = true := by rfl) :
    DE X W (.Call (.Attribute (.Name x p) name apos) [] [] pos) (eMut i k aNil) := by
  refine PE.imp (pe_bm0 PySem.F.plainAttrs_list slot hty hm (pv i hN hv hd hcd) hbase hline) fun σ H Q ⟨Z, A, O, m, s, q⟩ => ?_
  by_cases hc : canChg i m = true
  · simp only [eMut, if_pos hc] at q
    obtain ⟨l, xs0, hl, hx0⟩ := can_at s hc
    refine ⟨_, hl, .inl ⟨rfl, _, .inl (.inl hx0)⟩, ?_⟩
    have q' : RP X.K X.mg W (rD X.K) Z σ A O H Q (chg i (k []) m) := q
    obtain ⟨xs, ds, d, es, hx, rx, ek, w⟩ := chg_ok s hl q'
    exact hk A _ H l xs ds [] [] d es Q hx rx .nil ek w
  · simp only [eMut, if_neg hc] at q
    exact q.elim
def kAppend (args ds : List D) : Option (D × List D) := match args with
  | [d] => if ds.length < 16777216 then some (.non, ds ++ [d]) else none
  | _ => none
theorem mut_append {K : PySem.W.Frag} : MutS K rAppend kAppend := by
  intro A B H l xs ds vs args d es Q hx rx rv ek w
  unfold kAppend at ek
  split at ek
  · split at ek
    · cases ek
      obtain ⟨v, rfl, r1⟩ := reps1 rv
      rename_i hz
      exact ⟨l, xs, v, rfl, rfl, hx, by rw [rx.len]; exact lim_lt hz, w _ _ (rx.app (.cons r1 .nil)) .non⟩
    · cases ek
  · cases ek
def kPop (args ds : List D) : Option (D × List D) := match args, ds[ds.length - 1]? with
  | [], some d => some (d, ds.dropLast)
  | _, _ => none
theorem mut_pop {K : PySem.W.Frag} : MutS K rPop kPop := by
  intro A B H l xs ds vs args d es Q hx rx rv ek w
  unfold kPop at ek
  split at ek
  · cases ek
    cases rv
    rename_i hd
    obtain ⟨v, hv, r1⟩ := rx.get hd
    exact ⟨l, xs, v, rfl, rfl, hx, by rw [rx.len]; exact hv, w _ _ rx.dropLast r1⟩
  · cases ek
def kPopAt (args ds : List D) : Option (D × List D) := match args with
  | [.int i] => if -(2 ^ 63) ≤ i ∧ i < 2 ^ 63 then (match ixN ds.length i with
    | some k => (match ds[k]? with
      | some d => some (d, ds.eraseIdx k)
      | none => none)
    | none => none) else none
  | _ => none
theorem mut_popAt {K : PySem.W.Frag} : MutS K rPopAt kPopAt := by
  intro A B H l xs ds vs args d es Q hx rx rv ek w
  unfold kPopAt at ek
  split at ek
  · split at ek
    · rename_i i hi
      cases e : ixN ds.length i with
      | none => rw [e] at ek; cases ek
      | some k =>
        rw [e] at ek
        simp only at ek
        cases e2 : ds[k]? with
        | none => rw [e2] at ek; cases ek
        | some y =>
          rw [e2] at ek
          cases ek
          obtain ⟨v, rfl, r1⟩ := reps1 rv
          cases r1
          obtain ⟨y', hy, ry⟩ := rx.get e2
          exact ⟨l, xs, i, k, y', rfl, rfl, hx, hi.1, hi.2, by rw [rx.len]; exact (ixN_seq e).1, hy, w _ _ (rx.erase k) ry⟩
    · cases ek
  · cases ek
def kInsert (args ds : List D) : Option (D × List D) := match args with
  | [.int i, d] => if ds.length < 16777216 ∧ 0 ≤ i ∧ i < 2 ^ 63 then some (.non, ds.take i.toNat ++ [d] ++ ds.drop i.toNat) else none
  | _ => none
theorem mut_insert {K : PySem.W.Frag} : MutS K (fun x vs H Q => ∃ (l : Addr) (xs : List V) (i : Int) (y : V), x = .ref l ∧ vs = [.int i, y] ∧ H l = some (.lst xs) ∧ xs.length < sizeLine ∧ 0 ≤ i ∧ i < 2 ^ 63 ∧
    Q .non (upd H l (.lst (xs.take i.toNat ++ [y] ++ xs.drop i.toNat)))) kInsert := by
  intro A B H l xs ds vs args d es Q hx rx rv ek w
  unfold kInsert at ek
  split at ek
  · split at ek
    · rename_i i y hi
      cases ek
      obtain ⟨v, v', rfl, r1, r2⟩ := reps2 rv
      cases r1
      exact ⟨l, xs, i, v', rfl, rfl, hx, by rw [rx.len]; exact lim_lt hi.1, hi.2.1, hi.2.2, w _ _ (((rx.take _).app (.cons r2 .nil)).app (rx.drop _)) .non⟩
    · cases ek
  · cases ek
theorem de_append (i : Nat) {x : Str} (ha : DA X W [e] fs) (hm : DE X W (.Call (.Attribute (.Name x p) "append" apos) [e] [] pos) (eMut i kAppend fs)) : DE X W (.Call (.Attribute (.Name x p) "append" apos) [e] [] pos) (eMut i kAppend fs) := hm

/-! ### statements -/
inductive SR where
  | next (m : Ms) | ret (d : D) (m : Ms) | brk (m : Ms) | cnt (m : Ms) | exc (x : Ex) (m : Ms) | stuck
def SPD (K : PySem.W.Frag) (mg : Str → Option Value) (W : WX) (Z A : List Addr) (O : Ow) (H : Hp) (D : Ends) : SR → Prop
  | .next m => ∀ σ' A' O' H', Ev A O H A' O' H' → RS K Z A' O' H' σ' m → D.nx σ' H'
  | .ret d m => ∀ v σ' A' O' H', Ev A O H A' O' H' → RS K Z A' O' H' σ' m → Rep K A' (bad A' [] Z) H' v d → D.rt v H'
  | .brk m => ∀ σ' A' O' H', Ev A O H A' O' H' → RS K Z A' O' H' σ' m → D.bk σ' H'
  | .cnt m => ∀ σ' A' O' H', Ev A O H A' O' H' → RS K Z A' O' H' σ' m → D.ct σ' H'
  | .exc x m => ∀ cls dd σ' A' O' H', Ev A O H A' O' H' → RS K Z A' O' H' σ' m → ExR K mg A' (bad A' O' Z) H' cls dd x → W cls dd σ' H'
  | .stuck => False
def tSt (K : PySem.W.Frag) (mg : Str → Option Value) (W : WX) (f : Ms → SR) : TS := fun D σ H => ∃ Z A O m, RS K Z A O H σ m ∧ SPD K mg W Z A O H D (f m)
abbrev DS (X : Cx) (W : WX) (st : Stmt) (f : Ms → SR) : Prop := PS X st (tSt X.K X.mg W f)
abbrev DSs (X : Cx) (W : WX) (st : List Stmt) (f : Ms → SR) : Prop := PSs X st (tSt X.K X.mg W f)
theorem PS.imp {st : Stmt} {t t' : TS} (h : PS X st t) (k : ∀ D σ H, t' D σ H → t D σ H) : PS X st t' := ⟨fun pins s σ H D I q => h.run pins s σ H D I (k D σ H q)⟩
theorem PSs.imp {st : List Stmt} {t t' : TS} (h : PSs X st t) (k : ∀ D σ H, t' D σ H → t D σ H) : PSs X st t' := ⟨fun pins s σ H D I q => h.run pins s σ H D I (k D σ H q)⟩
def SR.bind (r : SR) (k : Ms → SR) : SR := match r with
  | .next m => k m
  | r => r
def Res.sb {α : Type} (r : Res α) (k : α → Ms → SR) : SR := match r with
  | .ok a m => k a m
  | .exc x m => .exc x m
  | .stuck => .stuck
section
variable {K : PySem.W.Frag} {mg : Str → Option Value} {Z A A' : List Addr} {O O' : Ow} {H H' : Hp} {D D' : Ends} {r : SR} {α β : Type}
theorem SPD.ev (h : SPD K mg W Z A O H D r) (e : Ev A O H A' O' H') : SPD K mg W Z A' O' H' D r := by
  cases r with
  | next m => exact fun σ A2 O2 H2 e2 s => h σ A2 O2 H2 (e.trans e2) s
  | ret d m => exact fun v σ A2 O2 H2 e2 s q => h v σ A2 O2 H2 (e.trans e2) s q
  | brk m => exact fun σ A2 O2 H2 e2 s => h σ A2 O2 H2 (e.trans e2) s
  | cnt m => exact fun σ A2 O2 H2 e2 s => h σ A2 O2 H2 (e.trans e2) s
  | exc x m => exact fun c d σ A2 O2 H2 e2 s q => h c d σ A2 O2 H2 (e.trans e2) s q
  | stuck => exact h
theorem SPD.bind {k : Ms → SR} (h : SPD K mg W Z A O H D (r.bind k)) (h1 : ∀ m σ' A' O' H', Ev A O H A' O' H' → RS K Z A' O' H' σ' m → SPD K mg W Z A' O' H' D (k m) → D'.nx σ' H') (h2 : D'.rt = D.rt) (h3 : D'.bk = D.bk) (h4 : D'.ct = D.ct) : SPD K mg W Z A O H D' r := by
  cases r with
  | next m => exact fun σ A2 O2 H2 e2 s => h1 m σ A2 O2 H2 e2 s (SPD.ev h e2)
  | ret d m => intro v σ A2 O2 H2 e2 s q; rw [h2]; exact h v σ A2 O2 H2 e2 s q
  | brk m => intro σ A2 O2 H2 e2 s; rw [h3]; exact h σ A2 O2 H2 e2 s
  | cnt m => intro σ A2 O2 H2 e2 s; rw [h4]; exact h σ A2 O2 H2 e2 s
  | exc x m => exact h
  | stuck => exact h
theorem SPD.sb {σ : L2.St} {rel : Rl β α} {r : Res α} {k : α → Ms → SR} {Q : β → Hp → Prop} (h : SPD K mg W Z A O H D (r.sb k)) (hQ : ∀ v a m1 A1 O1 H1, Ev A O H A1 O1 H1 → RS K Z A1 O1 H1 σ m1 → rel A1 (bad A1 O1 Z) H1 v a → SPD K mg W Z A1 O1 H1 D (k a m1) → Q v H1) : RP K mg W rel Z σ A O H Q r := by
  cases r with
  | ok a m => exact fun v A2 O2 H2 e2 s q => hQ v a m A2 O2 H2 e2 s q (SPD.ev h e2)
  | exc x m => exact fun c d A2 O2 H2 e2 s q => h c d σ A2 O2 H2 e2 s q
  | stuck => exact h
end
def sNil (m : Ms) : SR := .next m
def sSeq (f g : Ms → SR) (m : Ms) : SR := (f m).bind g
variable {st : Stmt} {sts : List Stmt} {F G : Ms → SR}
theorem dss_nil : DSs X W [] sNil := PSs.imp pss_nil fun D σ H ⟨Z, A, O, m, s, q⟩ => q σ A O H .refl s
theorem dss_cons (h1 : DS X W st F) (h2 : DSs X W sts G) : DSs X W (st :: sts) (sSeq F G) :=
  PSs.imp (pss_cons h1 h2) fun D σ H ⟨Z, A, O, m, s, q⟩ => ⟨Z, A, O, m, s, SPD.bind q (fun m1 σ1 A1 O1 H1 ev s1 q1 => ⟨Z, A1, O1, m1, s1, q1⟩) rfl rfl rfl⟩
theorem dss_one (h1 : DS X W st F) : DSs X W [st] F := pss_one h1
def sRet (f : Ms → Res D) (m : Ms) : SR := (f m).sb fun d m1 => .ret d m1
theorem bad_nil {A Z : List Addr} {O : Ow} {a : Addr} (h : a ∈ bad A [] Z) : a ∈ bad A O Z := by
  rcases mem_bad.mp h with z | z | z
  · exact mem_bad.mpr (.inl z)
  · exact absurd z (by simp [own])
  · exact mem_bad.mpr (.inr (.inr z))
theorem ds_ret (h : DE X W e f) : DS X W (.Return (some e) pos) (sRet f) :=
  PS.imp (ps_ret h) fun D σ H ⟨Z, A, O, m, s, q⟩ => ⟨Z, A, O, m, s, SPD.sb q fun v d m1 A1 O1 H1 ev s1 r1 q1 => q1 v σ A1 O1 H1 .refl s1 (r1.carry (.less fun _ z => bad_nil z))⟩
def sRetN (m : Ms) : SR := .ret .non m
theorem ds_retN : DS X W (.Return none pos) sRetN := PS.imp ps_retN fun D σ H ⟨Z, A, O, m, s, q⟩ => q .non σ A O H .refl s .non
def sExpr (f : Ms → Res D) (m : Ms) : SR := (f m).sb fun _ m1 => .next m1
theorem ds_expr (h : DE X W e f) (hs : swapsWith e none pos.line X.env = pure false := by rfl) : DS X W (.Expr e pos) (sExpr f) :=
  PS.imp (ps_expr h hs) fun D σ H ⟨Z, A, O, m, s, q⟩ => ⟨Z, A, O, m, s, SPD.sb q fun v d m1 A1 O1 H1 ev s1 r1 q1 => q1 σ A1 O1 H1 .refl s1⟩
theorem ds_pass : DS X W (.Pass pos) sNil := PS.imp ps_pass fun D σ H ⟨Z, A, O, m, s, q⟩ => q σ A O H .refl s
def sBrk (m : Ms) : SR := .brk m
def sCnt (m : Ms) : SR := .cnt m
theorem ds_break : DS X W (.Break pos) sBrk := PS.imp ps_break fun D σ H ⟨Z, A, O, m, s, q⟩ => q σ A O H .refl s
theorem ds_continue : DS X W (.Continue pos) sCnt := PS.imp ps_continue fun D σ H ⟨Z, A, O, m, s, q⟩ => q σ A O H .refl s
def sIf (t : Ms → Res Bool) (F G : Ms → SR) (m : Ms) : SR := (t m).sb fun b m1 => if b = true then F m1 else G m1
theorem ds_if {t : Ms → Res Bool} {s1 s2 : List Stmt} (hc : DT X W c t) (h1 : DSs X W s1 F) (h2 : DSs X W s2 G) : DS X W (.If c s1 s2 pos) (sIf t F G) :=
  PS.imp (ps_if hc h1 h2) fun D σ H ⟨Z, A, O, m, s, q⟩ => ⟨Z, A, O, m, s, SPD.sb q fun v d m1 A1 O1 H1 ev s1 r1 q1 => by
    cases r1
    cases v with
    | true => exact iteT ⟨Z, A1, O1, m1, s1, q1⟩
    | false => exact iteF ⟨Z, A1, O1, m1, s1, q1⟩⟩
/-- code that is not come to -/
def sNever (_ : Ms) : SR := .stuck
theorem ds_never : DS X W st sNever := PS.imp ps_never fun D σ H ⟨Z, A, O, m, s, q⟩ => q
theorem dss_never : DSs X W sts sNever := PSs.imp pss_never fun D σ H ⟨Z, A, O, m, s, q⟩ => q

/-! ### stores -/
def putV (i : Nat) (d : D) (m : Ms) : Ms := ⟨m.r.set i (.val d), m.S⟩
def putO (i : Nat) (ds : List D) (m : Ms) : Ms := ⟨m.r.set i (.own ds), m.S⟩
def sSet (i : Nat) (f : Ms → Res D) (m : Ms) : SR := (f m).sb fun d m1 => .next (putV i d m1)
def sOwn (i : Nat) (f : Ms → Res (List D)) (m : Ms) : SR := (f m).sb fun ds m1 => .next (putO i ds m1)
def sLoc (i : Nat) (f : Ms → Res (List D)) (m : Ms) : SR := (f m).sb fun ds m1 => .next ⟨m1.r.set i (.val (.loc m1.S.length)), m1.S ++ [.lst ds]⟩
variable {fq : Ms → Res (List D)}
theorem ds_set (i : Nat) {x : Str} {pos' : Pos} (hN : X.N.Nodup) (he : DE X W e f) (hi : X.N[i]? = some x := by rfl) (hx : Loc X.env.scope x := by first | exact Or.inl rfl | exact Or.inr rfl) (hs : swapsWith e (some (.Name x pos')) pos.line X.env = pure false := by rfl)
    (hf : X.fn x = true ∨ X.env.scope.names.lookup x = some .local := by first | exact .inl rfl | exact .inr rfl) : DS X W (.Assign [.Name x pos'] e pos) (sSet i f) :=
  PS.imp (ps_set hN hi hx he hs hf) fun D σ H ⟨Z, A, O, m, s, q⟩ => ⟨Z, A, O, m, s, SPD.sb q fun v d m1 A1 O1 H1 ev s1 r1 q1 => q1 _ A1 _ H1 .set_none (s1.setVal i r1)⟩
theorem ds_own (i : Nat) {x : Str} {pos' : Pos} (hN : X.N.Nodup) (he : DN X W e fq) (hi : X.N[i]? = some x := by rfl) (hx : Loc X.env.scope x := by first | exact Or.inl rfl | exact Or.inr rfl) (hs : swapsWith e (some (.Name x pos')) pos.line X.env = pure false := by rfl)
    (hf : X.fn x = true ∨ X.env.scope.names.lookup x = some .local := by first | exact .inl rfl | exact .inr rfl) : DS X W (.Assign [.Name x pos'] e pos) (sOwn i fq) :=
  PS.imp (ps_set hN hi hx he hs hf) fun D σ H ⟨Z, A, O, m, s, q⟩ => ⟨Z, A, O, m, s, SPD.sb q fun xs ds m1 A1 O1 H1 ev s1 r1 q1 p hp => q1 _ A1 _ _ (.set_own hp) (s1.setOwn i hp r1)⟩
theorem ds_loc (i : Nat) {x : Str} {pos' : Pos} (hN : X.N.Nodup) (he : DN X W e fq) (hi : X.N[i]? = some x := by rfl) (hx : Loc X.env.scope x := by first | exact Or.inl rfl | exact Or.inr rfl) (hs : swapsWith e (some (.Name x pos')) pos.line X.env = pure false := by rfl)
    (hf : X.fn x = true ∨ X.env.scope.names.lookup x = some .local := by first | exact .inl rfl | exact .inr rfl) : DS X W (.Assign [.Name x pos'] e pos) (sLoc i fq) :=
  PS.imp (ps_set hN hi hx he hs hf) fun D σ H ⟨Z, A, O, m, s, q⟩ => ⟨Z, A, O, m, s, SPD.sb q fun xs ds m1 A1 O1 H1 ev s1 r1 q1 p hp => by
    obtain ⟨ev2, s2, r2⟩ := s1.newLoc hp r1
    exact q1 _ _ _ _ (ev2.trans .set_none) (s2.setVal i r2)⟩
end
end Wd

namespace Wd
open PySem PySem.Spec PyProof.Rows L2

/-! ### targets -/
/-- the slots beside vs are as they were -/
def Beside (vs : List Nat) (σ σ' : L2.St) : Prop := σ'.length = σ.length ∧ ∀ (j : Nat), j ∉ vs → σ'[j]? = σ[j]?
theorem Beside.refl {vs : List Nat} {σ : L2.St} : Beside vs σ σ := ⟨rfl, fun _ _ => rfl⟩
theorem Beside.trans {vs ws : List Nat} {σ σ' σ'' : L2.St} (a : Beside vs σ σ') (b : Beside ws σ' σ'') : Beside (vs ++ ws) σ σ'' :=
  ⟨b.1.trans a.1, fun j hj => (b.2 j fun z => hj (List.mem_append_right _ z)).trans (a.2 j fun z => hj (List.mem_append_left _ z))⟩
abbrev Tg := D → Ms → Option Ms
def tTg (K : PySem.W.Frag) (vs : List Nat) (g : Tg) : TG := fun v σ H Q => ∃ Z A O m d, RS K Z A O H σ m ∧ Rep K A (bad A O Z) H v d ∧ ∃ m', g d m = some m' ∧ ∀ σ' A' O' H', Beside vs σ σ' → Ev A O H A' O' H' → RS K Z A' O' H' σ' m' → Q σ' H'
def gAll : List Tg → List D → Ms → Option Ms
  | [], [], m => some m
  | g :: gs, d :: ds, m => match g d m with
    | some m1 => gAll gs ds m1
    | none => none
  | _, _, _ => none
def tTgs (K : PySem.W.Frag) (vs : List Nat) (gs : List Tg) : TGs := fun ws σ H Q => ∃ Z A O m ds, RS K Z A O H σ m ∧ Reps K A (bad A O Z) H ws ds ∧ ∃ m', gAll gs ds m = some m' ∧ ∀ σ' A' O' H', Beside vs σ σ' → Ev A O H A' O' H' → RS K Z A' O' H' σ' m' → Q σ' H'
abbrev DG (X : Cx) (tg : Expr) (vs : List Nat) (g : Tg) : Prop := PG X tg (tTg X.K vs g)
abbrev DGs (X : Cx) (tgs : List Expr) (vs : List Nat) (gs : List Tg) : Prop := PGs X tgs (tTgs X.K vs gs)
def tgN (i : Nat) : Tg := fun d m => some (putV i d m)
def tgT (gs : List Tg) : Tg := fun d m => match d with
  | .tup ds => gAll gs ds m
  | .lst ds => gAll gs ds m
  | _ => none
section
variable {X : Cx} {W : WX} {e a b c tg iter : Expr} {es rest tgs : List Expr} {pos apos p : Pos} {f : Ms → Res D} {fs fq : Ms → Res (List D)} {g : Tg} {gs : List Tg} {vs ws : List Nat} {st : Stmt} {sts : List Stmt} {F G : Ms → SR}
theorem PG.imp {t t' : TG} (h : PG X tg t) (k : ∀ v σ H Q, t' v σ H Q → t v σ H Q) : PG X tg t' := ⟨fun pins s σ H v u Q I r q => h.run pins s σ H v u Q I r (k v σ H Q q)⟩
theorem PGs.imp {t t' : TGs} (h : PGs X tgs t) (k : ∀ v σ H Q, t' v σ H Q → t v σ H Q) : PGs X tgs t' := ⟨fun pins s σ H v u Q I r q => h.run pins s σ H v u Q I r (k v σ H Q q)⟩
theorem beside_set {σ : L2.St} {i : Nat} {x : Option V} : Beside [i] σ (σ.set i x) := ⟨by simp, fun j hj => List.getElem?_set_ne (fun z => hj (by simp [z]))⟩
theorem dg_name (i : Nat) {x : Str} (hN : X.N.Nodup) (hi : X.N[i]? = some x := by rfl) (hx : Loc X.env.scope x := by first | exact Or.inl rfl | exact Or.inr rfl) (hf : X.fn x = true ∨ X.env.scope.names.lookup x = some .local := by first | exact .inl rfl | exact .inr rfl) : DG X (.Name x pos) [i] (tgN i) :=
  PG.imp (pg_name hN hi hx hf) fun v σ H Q ⟨Z, A, O, m, d, s, r, m', e, q⟩ => by
    cases e
    exact q _ A _ H beside_set .set_none (s.setVal i r)
theorem dgs_nil : DGs X [] [] [] := PGs.imp pgs_nil fun v σ H Q ⟨Z, A, O, m, ds, s, r, m', e, q⟩ => by
  cases r with
  | nil => cases e; exact ⟨rfl, q σ A O H .refl .refl s⟩
  | cons _ _ => cases e
theorem dgs_cons (h1 : DG X tg vs g) (h2 : DGs X tgs ws gs) (hs : (assignEach (tg :: tgs) X.env).map (·.2) = assign tg X.env :: (assignEach tgs X.env).map (·.2) := by rfl) : DGs X (tg :: tgs) (vs ++ ws) (g :: gs) :=
  PGs.imp (pgs_cons h1 h2 hs) fun v σ H Q ⟨Z, A, O, m, ds, s, r, m', e, q⟩ => by
    cases r with
    | nil => cases e
    | @cons v vs' d ds r1 r2 =>
      simp only [gAll] at e
      cases e1 : g d m with
      | none => rw [e1] at e; cases e
      | some m1 =>
        rw [e1] at e
        exact ⟨v, vs', rfl, Z, A, O, m, d, s, r1, m1, e1, fun σ1 A1 O1 H1 b1 ev1 s1 => ⟨Z, A1, O1, m1, ds, s1, r2.carry ev1.carry, m', e, fun σ2 A2 O2 H2 b2 ev2 s2 => q σ2 A2 O2 H2 (b1.trans b2) (ev1.trans ev2) s2⟩⟩
theorem dg_tup {k : Nat} (hc : X.calm = true) (h : DGs X tgs vs gs) (hl : gs.length = tgs.length := by rfl) (hn : (assignEach tgs X.env).length = tgs.length := by rfl) (hst : (assignEach tgs X.env).findIdx? (·.1) = none := by rfl) : DG X (.Tuple tgs k pos) vs (tgT gs) := by
  have len : ∀ {gs : List Tg} {ds : List D} {m m' : Ms}, gAll gs ds m = some m' → ds.length = gs.length := fun {gs} => by
    induction gs with
    | nil => intro ds m m' e; cases ds with | nil => rfl | cons _ _ => cases e
    | cons g gs ih =>
      intro ds m m' e
      cases ds with
      | nil => cases e
      | cons d ds =>
        simp only [gAll] at e
        cases e1 : g d m with
        | none => rw [e1] at e; cases e
        | some m1 => rw [e1] at e; rw [List.length_cons, List.length_cons, ih e]
  refine ⟨fun pins s σ H v u Q I r ⟨Z, A, O, m, d, rs, rp, m', e, q⟩ => ?_⟩
  cases rp with
  | @tup a xs ds h1 h2 =>
    have e' : gAll gs ds m = some m' := e
    exact (pg_tup (n := tgs.length) hc h hn hst).run pins s σ H _ u Q I r ⟨a, xs, rfl, h1.sq, by rw [h2.len, len e', hl], Z, A, O, m, ds, rs, h2, m', e', q⟩
  | @lst a xs ds h1 h2 =>
    have e' : gAll gs ds m = some m' := e
    exact (pg_lst (n := tgs.length) hc h hn hst).run pins s σ H _ u Q I r ⟨a, xs, rfl, h1.sq, by rw [h2.len, len e', hl], Z, A, O, m, ds, rs, h2, m', e', q⟩
  | _ => cases e
/-- target = e -/
def sAsg (g : Tg) (f : Ms → Res D) (m : Ms) : SR := (f m).sb fun d m1 => match g d m1 with
  | some m2 => .next m2
  | none => .stuck
theorem ds_asg (he : DE X W e f) (hg : DG X tg vs g) (hs : swapsWithSole [tg] e pos.line X.env = pure false := by rfl) (hw : swappedStores [tg] e X.env = pure none := by rfl)
    (h1 : (assignEach [tg] X.env).map (·.2) = [assign tg X.env] := by rfl) : DS X W (.Assign [tg] e pos) (sAsg g f) :=
  PS.imp (ps_asg he hg hs hw h1) fun D σ H ⟨Z, A, O, m, s, q⟩ => ⟨Z, A, O, m, s, SPD.sb q fun v d m1 A1 O1 H1 ev s1 r1 q1 => by
    cases e1 : g d m1 with
    | none => rw [e1] at q1; exact q1.elim
    | some m2 =>
      rw [e1] at q1
      exact ⟨Z, A1, O1, m1, d, s1, r1, m2, e1, fun σ2 A2 O2 H2 _ ev2 s2 => q1 σ2 A2 O2 H2 ev2 s2⟩⟩
/-- x[i] = e, x a list that may be changed -/
def kSet (d : D) (iv : D) (ds : List D) : Option (D × List D) := match iv with
  | .int j => (match ixN ds.length j with
    | some n => some (.non, ds.set n d)
    | none => none)
  | _ => none
def sIx (i : Nat) (fi f : Ms → Res D) (m : Ms) : SR := (f m).sb fun d m1 => if canChg i m1 = true then (fi m1).sb fun iv m2 => (chg i (kSet d iv) m2).sb fun _ m3 => .next m3 else .stuck
theorem ds_ix (i : Nat) {x : Str} {ei : Expr} {fi : Ms → Res D} {tp : Pos} (he : DE X W e f) (hi : DE X W ei fi) (hN : X.N[i]? = some x := by rfl) (hv : Vis X.env.scope x := by first | exact Or.inl rfl | exact Or.inr (Or.inl rfl) | exact Or.inr (Or.inr rfl)) (hd : (x == ("__debug__" : Str)) = false := by decide)
    (hcd : (x == ("__classdict__" : Str)) = false := by decide)
    (ha : ∀ v, assign (.Subscript (.Name x p) ei tp) X.env v = (do
      let ov ← holding [v] (eval (.Name x p) X.env)
      let iv ← holding [v, ov] (eval ei X.env)
      standAt tp
      holding [v, ov, iv] (setItem ov iv v)
      release [v, ov, iv] []) := by intro _; rfl)
    (hs : swapsWithSole [.Subscript (.Name x p) ei tp] e pos.line X.env = pure false := by rfl) (hw : swappedStores [.Subscript (.Name x p) ei tp] e X.env = pure none := by rfl)
    (h1 : (assignEach [.Subscript (.Name x p) ei tp] X.env).map (·.2) = [assign (.Subscript (.Name x p) ei tp) X.env] := by rfl) : DS X W (.Assign [.Subscript (.Name x p) ei tp] e pos) (sIx i fi f) :=
  PS.imp (ps_asg he (pg_sub (pv i hN hv hd hcd) hi set_list ha) hs hw h1) fun D σ H ⟨Z, A, O, m, s, q⟩ => ⟨Z, A, O, m, s, SPD.sb q fun v d m1 A1 O1 H1 ev s1 r1 q1 => by
    by_cases hc : canChg i m1 = true
    · rw [if_pos hc] at q1
      obtain ⟨l, xs0, hl, hx0⟩ := can_at s1 hc
      refine ⟨_, hl, Z, A1, O1, m1, s1, SPD.sb q1 fun w iv m2 A2 O2 H2 ev2 s2 r2 q2 => ?_⟩
      have q3 : RP X.K X.mg W (rD X.K) Z σ A2 O2 H2 (fun _ H' => D.nx σ H') (chg i (kSet d iv) m2) := SPD.sb q2 fun v' d' m3 A3 O3 H3 ev3 s3 r3 q4 => q4 σ A3 O3 H3 .refl s3
      obtain ⟨xs, ds, dd, es, hx, rx, ek, w2⟩ := chg_ok s2 hl q3
      cases r2 with
      | int j =>
        simp only [kSet] at ek
        cases e2 : ixN ds.length j with
        | none => rw [e2] at ek; cases ek
        | some n =>
          rw [e2] at ek
          cases ek
          exact ⟨l, xs, j, n, rfl, rfl, hx, by rw [rx.len]; exact e2, w2 .non _ (rx.set (r1.carry ev2.carry) n) .non⟩
      | _ => cases ek
    · rw [if_neg hc] at q1
      exact q1.elim⟩

/-! ### loops -/
def rJ (K : PySem.W.Frag) : Rl It (List D) := fun A B H J ds => ∀ A' B' H', Carry A A' B B' H H' → (∀ a, a ∈ B' → H' a ≠ none) → (∀ i, i < ds.length → J.go i H') ∧ J.stop ds.length H' ∧
  ∀ i x H2, i < ds.length → J.yld i H' x H2 → (H2 = H' ∨ ∃ T o, H' T = none ∧ H2 = upd H' T o) ∧ ∃ d, ds[i]? = some d ∧ Rep K A' B' H2 x d
abbrev DI (X : Cx) (W : WX) (tg iter : Expr) (f : Ms → Res (List D)) : Prop := PI X tg iter (tG X.K X.mg W (rJ X.K) f)
theorem RS.badIn {K : PySem.W.Frag} {Z A : List Addr} {O : Ow} {H : Hp} {σ : L2.St} {m : Ms} (s : RS K Z A O H σ m) : ∀ a, a ∈ bad A O Z → H a ≠ none := fun a h e => s.notBad e h
theorem PI.imp {t t' : TI} (h : PI X tg iter t) (k : ∀ σ H Q, t' σ H Q → t σ H Q) : PI X tg iter t' := ⟨fun pins s σ H Q I q => h.run pins s σ H Q I (k σ H Q q)⟩
def forD (g : Tg) (body : Ms → SR) : List D → Ms → SR
  | [], m => .next m
  | d :: ds, m => match g d m with
    | none => .stuck
    | some m1 => match body m1 with
      | .next m2 => forD g body ds m2
      | .cnt m2 => forD g body ds m2
      | .brk m2 => .next m2
      | r => r
def sFor (src : Ms → Res (List D)) (g : Tg) (body : Ms → SR) (m : Ms) : SR := (src m).sb fun ds m1 => forD g body ds m1
theorem ds_for (hc : X.calm = true) (hi : DI X W tg iter fq) (hg : DG X tg vs g) (hb : DSs X W sts F) (hp : PassesOwn (model X.prog X.w) X.A X.env X.xe := by first | exact passes_of rfl | assumption | exact PassesOwn.never)
    (hs : ∀ x, foldedSetIterable iter X.env x = pure x := by intro _; rfl) : DS X W (.For tg iter sts [] pos) (sFor fq g F) := by
  refine PS.imp (ps_for hp hc hi hg hb hs) fun D σ H ⟨Z, A, O, m, s, q⟩ => ⟨Z, A, O, m, s, SPD.sb q fun J ds m1 A1 O1 H1 ev s1 j q1 => ?_⟩
  refine ⟨fun i n σ2 H2 => ∃ A2 O2 m2, Ev A1 O1 H1 A2 O2 H2 ∧ RS X.K Z A2 O2 H2 σ2 m2 ∧ i + n = ds.length ∧ SPD X.K X.mg W Z A2 O2 H2 D (forD g F (ds.drop i) m2), ⟨ds.length, A1, O1, m1, .refl, s1, by omega, q1⟩, ?_⟩
  rintro i n σ2 H2 ⟨A2, O2, m2, ev2, s2, hn, q2⟩
  obtain ⟨go, stop, yld⟩ := j A2 (bad A2 O2 Z) H2 ev2.carry s2.badIn
  by_cases hi : i < ds.length
  · refine .inr ⟨go i hi, fun σ' H' => ∃ A' O' m', Ev A1 O1 H1 A' O' H' ∧ RS X.K Z A' O' H' σ' m' ∧ SPD X.K X.mg W Z A' O' H' D (forD g F (ds.drop (i + 1)) m'), fun σ' H' ⟨A', O', m', h1, h2, h3⟩ => ⟨n - 1, by omega, A', O', m', h1, h2, by omega, h3⟩, fun x H3 hy => ?_⟩
    obtain ⟨hH, d, hd, r⟩ := yld i x H3 hi hy
    have gr : ∀ a o, H2 a = some o → H3 a = some o := by
      rcases hH with rfl | ⟨T, o, hT, rfl⟩
      · exact fun _ _ e => e
      · exact upd_grow hT
    have s3 := s2.grow gr
    have ev3 : Ev A2 O2 H2 A2 O2 H3 := .grow gr
    have ed : ds.drop i = d :: ds.drop (i + 1) := by
      rw [List.drop_eq_getElem_cons hi]
      rw [List.getElem?_eq_getElem hi] at hd
      rw [Option.some.inj hd]
    rw [ed, forD] at q2
    cases eg : g d m2 with
    | none => rw [eg] at q2; exact q2.elim
    | some m3 =>
      rw [eg] at q2
      refine ⟨Z, A2, O2, m2, d, s3, r, m3, eg, fun σ4 A4 O4 H4 _ ev4 s4 => ⟨Z, A4, O4, m3, s4, ?_⟩⟩
      have q4 := q2.ev (ev3.trans ev4)
      have e4 := (ev2.trans ev3).trans ev4
      dsimp only at q4
      cases ef : F m3 with
      | next m5 => rw [ef] at q4; exact fun σ5 A5 O5 H5 ev5 s5 => ⟨A5, O5, m5, e4.trans ev5, s5, q4.ev ev5⟩
      | cnt m5 => rw [ef] at q4; exact fun σ5 A5 O5 H5 ev5 s5 => ⟨A5, O5, m5, e4.trans ev5, s5, q4.ev ev5⟩
      | brk m5 => rw [ef] at q4; exact q4
      | ret d5 m5 => rw [ef] at q4; exact q4
      | exc x5 m5 => rw [ef] at q4; exact q4
      | stuck => rw [ef] at q4; exact q4.elim
  · have ei : i = ds.length := by omega
    subst ei
    refine .inl ⟨stop, ?_⟩
    rw [List.drop_length] at q2
    exact q2 σ2 A2 O2 H2 .refl s2

/-! ### while -/
def whileN (c : Ms → Res Bool) (body : Ms → SR) : Nat → Ms → SR
  | 0, _ => .stuck
  | n + 1, m => match c m with
    | .ok true m1 => (match body m1 with
      | .next m2 => whileN c body n m2
      | .cnt m2 => whileN c body n m2
      | .brk m2 => .next m2
      | r => r)
    | .ok false m1 => .next m1
    | .exc x m1 => .exc x m1
    | .stuck => .stuck
open Classical in
noncomputable def sWhile (c : Ms → Res Bool) (body : Ms → SR) (m : Ms) : SR := if h : ∃ n, whileN c body n m ≠ .stuck then whileN c body (Classical.choose h) m else .stuck
theorem whileN_mono {c : Ms → Res Bool} {body : Ms → SR} : ∀ {n k : Nat} {m : Ms}, whileN c body n m ≠ .stuck → n ≤ k → whileN c body k m = whileN c body n m
  | 0, _, _, h, _ => absurd rfl h
  | n + 1, k, m, h, hk => by
    obtain ⟨k', rfl⟩ : ∃ k', k = k' + 1 := ⟨k - 1, by omega⟩
    unfold whileN at h ⊢
    cases e : c m with
    | ok b m1 =>
      rw [e] at h
      cases b with
      | false => rfl
      | true =>
        simp only at h ⊢
        cases eb : body m1 with
        | next m2 => rw [eb] at h; exact whileN_mono h (by omega)
        | cnt m2 => rw [eb] at h; exact whileN_mono h (by omega)
        | brk m2 => rfl
        | ret d m2 => rfl
        | exc x m2 => rfl
        | stuck => rfl
    | exc x m1 => rfl
    | stuck => rfl
theorem sWhile_eq {c : Ms → Res Bool} {body : Ms → SR} {n : Nat} {m : Ms} {r : SR} (h : whileN c body n m = r) (hr : r ≠ .stuck) : sWhile c body m = r := by
  have hx : ∃ n, whileN c body n m ≠ .stuck := ⟨n, by rw [h]; exact hr⟩
  unfold sWhile
  rw [dif_pos hx]
  have h1 := Classical.choose_spec hx
  have h2 : whileN c body n m ≠ .stuck := by rw [h]; exact hr
  rw [← h]
  rcases Nat.le_total n (Classical.choose hx) with z | z
  · exact whileN_mono h2 z
  · exact (whileN_mono h1 z).symm
theorem ds_while {t : Ms → Res Bool} (hc : DT X W c t) (hb : DSs X W sts F) (hp : PassesOwn (model X.prog X.w) X.A X.env X.xe := by first | exact passes_of rfl | assumption | exact PassesOwn.never) : DS X W (.While c sts [] pos) (sWhile t F) := by
  refine PS.imp (ps_while hp hc hb) fun D σ H ⟨Z, A, O, m, s, q⟩ => ?_
  by_cases hx : ∃ n, whileN t F n m ≠ .stuck
  · unfold sWhile at q
    rw [dif_pos hx] at q
    refine ⟨fun n σ2 H2 => ∃ A2 O2 m2, RS X.K Z A2 O2 H2 σ2 m2 ∧ SPD X.K X.mg W Z A2 O2 H2 D (whileN t F n m2), ⟨_, A, O, m, s, q⟩, ?_⟩
    rintro n σ2 H2 ⟨A2, O2, m2, s2, q2⟩
    cases n with
    | zero => exact q2.elim
    | succ n =>
      unfold whileN at q2
      refine ⟨Z, A2, O2, m2, s2, ?_⟩
      cases et : t m2 with
      | ok b m3 =>
        rw [et] at q2
        intro v A3 O3 H3 ev3 s3 r3
        cases r3
        cases b with
        | true =>
          simp only at q2
          refine iteT ⟨fun σ' H' => ∃ A' O' m', RS X.K Z A' O' H' σ' m' ∧ SPD X.K X.mg W Z A' O' H' D (whileN t F n m'), fun σ' H' ⟨A', O', m', h1, h2⟩ => ⟨n, by omega, A', O', m', h1, h2⟩, Z, A3, O3, m3, s3, ?_⟩
          have q3 := q2.ev ev3
          cases ef : F m3 with
          | next m5 => rw [ef] at q3; exact fun σ5 A5 O5 H5 ev5 s5 => ⟨A5, O5, m5, s5, q3.ev ev5⟩
          | cnt m5 => rw [ef] at q3; exact fun σ5 A5 O5 H5 ev5 s5 => ⟨A5, O5, m5, s5, q3.ev ev5⟩
          | brk m5 => rw [ef] at q3; exact q3
          | ret d5 m5 => rw [ef] at q3; exact q3
          | exc x5 m5 => rw [ef] at q3; exact q3
          | stuck => rw [ef] at q3; exact q3.elim
        | false => exact iteF (q2 σ2 A3 O3 H3 ev3 s3)
      | exc x m3 => rw [et] at q2; exact fun cls dd A3 O3 H3 ev3 s3 z => q2 cls dd σ2 A3 O3 H3 ev3 s3 z
      | stuck => rw [et] at q2; exact q2.elim
  · unfold sWhile at q
    rw [dif_neg hx] at q
    exact q.elim

/-! ### what is walked -/
theorem carry_lst {K : PySem.W.Frag} {A A' B B' : List Addr} {H H' : Hp} {v : V} {d : D} (r : Rep K A B H v d) (c : Carry A A' B B' H H') : Rep K A' B' H' v d := r.carry c
/-- the signs of a text -/
def signs (z : Str) : List D := z.cps.toList.map fun c => D.str ⟨#[c]⟩
def itOf (d : D) (m : Ms) : Res (List D) := match d with
  | .tup ds => .ok ds m
  | .lst ds => .ok ds m
  | .ro ds => .ok ds m
  | .str z => .ok (signs z) m
  | _ => .stuck
def itE (f : Ms → Res D) (m : Ms) : Res (List D) := (f m).bind itOf
theorem di_seq (he : DE X W e f) : DI X W tg e (itE f) := by
  refine ⟨fun pins s σ H R I ⟨Z, A, O, m, rs, q⟩ => ?_⟩
  refine thn (he.run pins s σ H (fun x H1 => (∃ a, x = .ref a ∧ (∃ xs, SqL X.K H1 a xs) ∧ R (Itl X.K a) H1) ∨ (∃ a, x = .ref a ∧ (∃ xs, SqT X.K H1 a xs) ∧ R (Itt X.K a) H1) ∨ ∃ z, x = .str z ∧ R (Its z) H1) I ⟨Z, A, O, m, rs, RP.bind q fun v d m1 A1 O1 H1 ev s1 r1 q1 => ?_⟩) fun u s1 ⟨x, H1, I1, r1, q1⟩ => ?_
  · have lst : ∀ a xs ds, (∀ A' B' H', Carry A1 A' (bad A1 O1 Z) B' H1 H' → SqL X.K H' a xs ∧ Reps X.K A' B' H' xs ds) → RP X.K X.mg W (rJ X.K) Z σ A1 O1 H1 R (.ok ds m1) → (∃ xs, SqL X.K H1 a xs) ∧ R (Itl X.K a) H1 := fun a xs ds st q2 => by
      obtain ⟨h1, h2⟩ := st A1 _ H1 ⟨fun _ _ e => e, fun _ _ _ e => e, fun _ z => .inl z⟩
      refine ⟨⟨xs, h1⟩, q2.ret s1 fun A' B' H' c _ => ?_⟩
      obtain ⟨g1, g2⟩ := st A' B' H' c
      refine ⟨fun i hi => ⟨xs, xs[i]'(by rw [g2.len]; exact hi), g1, List.getElem?_eq_getElem _⟩, ⟨xs, g1, by rw [g2.len]; exact Nat.le_refl _⟩, fun i x H2 hi ⟨eH, ey⟩ => ?_⟩
      subst eH
      obtain ⟨d, hd, rd⟩ := g2.getV (ey xs g1)
      exact ⟨.inl rfl, d, hd, rd⟩
    cases r1 with
    | @tup a xs ds h1 h2 =>
      refine .inr (.inl ⟨a, rfl, ⟨xs, h1.sq⟩, q1.ret s1 fun A' B' H' c _ => ?_⟩)
      have g1 := (h1.carry c).sq
      have g2 := h2.carry c
      refine ⟨fun i hi => ⟨xs, xs[i]'(by rw [g2.len]; exact hi), g1, List.getElem?_eq_getElem _⟩, ⟨xs, g1, by rw [g2.len]; exact Nat.le_refl _⟩, fun i x H2 hi ⟨eH, ey⟩ => ?_⟩
      subst eH
      obtain ⟨d, hd, rd⟩ := g2.getV (ey xs g1)
      exact ⟨.inl rfl, d, hd, rd⟩
    | @lst a xs ds h1 h2 => exact .inl ⟨a, rfl, lst a xs ds (fun A' B' H' c => ⟨(h1.carry c).sq, h2.carry c⟩) q1⟩
    | @ro a xs ds h1 h2 => exact .inl ⟨a, rfl, lst a xs ds (fun A' B' H' c => ⟨(h1.carry c).sq, h2.carry c⟩) q1⟩
    | str z =>
      refine .inr (.inr ⟨z, rfl, q1.ret s1 fun A' B' H' c _ => ⟨fun i hi => ?_, ?_, fun i x H2 hi ⟨eH, y, hy, ex⟩ => ?_⟩⟩)
      · show i < z.cps.size
        simpa [signs] using hi
      · show z.cps.size ≤ _
        simp [signs]
      · subst eH ex
        refine ⟨.inl rfl, .str ⟨#[y]⟩, ?_, .str _⟩
        have hy' : z.cps.toList[i]? = some y := by rw [← Array.getElem?_toList] at hy; exact hy
        unfold signs
        rw [List.getElem?_map, hy']
        rfl
    | _ => exact q1.elim
  · rcases q1 with ⟨a, e, ⟨xs, hq⟩, q⟩ | ⟨a, e, ⟨xs, hq⟩, q⟩ | ⟨z, e, q⟩
    · subst e
      cases r1
      obtain ⟨its, rv, p, hz⟩ := I1.list hq
      refine wpAny_pyIter_list p.isList ?_
      refine ⟨s1.heap.objs.size, [s1.heap.objs.size], _, _, H1, rfl, I1.kept (t' := s1.toks) fun b o e => Heap.get?_push_of_some _ e, turn_list a _, ⟨_, Heap.get?_push_size _ rfl, rfl, rfl⟩, fun b hb => ?_, q⟩
      have e : b = s1.heap.objs.size := by simpa using hb
      subst e
      exact I1.fpOk (Nat.le_refl _) (I1.hok.fresh (Nat.le_refl _))
    · subst e
      cases r1
      obtain ⟨its, rv, p, hz⟩ := I1.tuple hq
      refine wpAny_pyIter_tuple (show s1.heap.IsTuple a its.toArray from p) ?_
      refine ⟨s1.heap.objs.size, [s1.heap.objs.size], _, _, H1, rfl, I1.kept (t' := s1.toks) fun b o e => Heap.get?_push_of_some _ e, turn_tuple a _, ⟨_, Heap.get?_push_size _ rfl, rfl, rfl⟩, fun b hb => ?_, q⟩
      have e : b = s1.heap.objs.size := by simpa using hb
      subst e
      exact I1.fpOk (Nat.le_refl _) (I1.hok.fresh (Nat.le_refl _))
    · subst e
      obtain ⟨t, rfl⟩ := r1
      cases wide : z.cps.all (· < 128)
      · exact wpAny_pyIter_wide wide (pi_one (tk := s1.toks) I1 _ (turn_str _ z t "str_iterator" (.inr rfl)) ⟨_, Heap.get?_push_size _ rfl, rfl, rfl⟩ q)
      · exact wpAny_pyIter_ascii wide (pi_one (tk := s1.toks) I1 _ (turn_str _ z t "str_ascii_iterator" (.inl rfl)) ⟨_, Heap.get?_push_size _ rfl, rfl, rfl⟩ q)
theorem rJ_range {K : PySem.W.Frag} {A B : List Addr} {H : Hp} {lo : Int} {n : Nat} : rJ K A B H (Itr lo n) ((List.range n).map fun i => D.int (lo + (i : Nat))) := fun A' B' H' _ _ => by
  refine ⟨fun i hi => by show i < n; simpa using hi, by show n ≤ _; simp, fun i x H2 hi ⟨e1, e2⟩ => ?_⟩
  subst e1 e2
  have hi' : i < n := by simpa using hi
  exact ⟨.inl rfl, .int (lo + i), by simp [hi'], .int _⟩
def rg1 (fs : Ms → Res (List D)) (m : Ms) : Res (List D) := (fs m).bind fun ds m1 => match ds with
  | [.int n] => if -1000000000 ≤ n ∧ n ≤ 1000000000 then .ok (rgD 0 n) m1 else .stuck
  | _ => .stuck
def rg2 (fs : Ms → Res (List D)) (m : Ms) : Res (List D) := (fs m).bind fun ds m1 => match ds with
  | [.int a, .int n] => if (-1000000000 ≤ a ∧ a ≤ 1000000000) ∧ (-1000000000 ≤ n ∧ n ≤ 1000000000) then .ok (rgD a n) m1 else .stuck
  | _ => .stuck
theorem di_range1 (hm : X.mg "range" = none) (ha : DA X W [a] fs) (hg : Gl X "range" := by rfl) (hs : starEach [a] X.env = [(false, eval a X.env)] := by rfl) : DI X W tg (.Call (.Name "range" p) [a] [] pos) (rg1 fs) := by
  refine PI.imp (pi_range1 hg hm ha hs) fun σ H R ⟨Z, A, O, m, s, q⟩ => ⟨Z, A, O, m, s, RP.bind q fun vs ds m1 A1 O1 H1 ev s1 r1 q1 => ?_⟩
  split at q1
  · rename_i n
    split at q1
    · rename_i hn
      obtain ⟨v, rfl, r2⟩ := reps1 r1
      cases r2
      refine ⟨n, rfl, by omega, by omega, ?_⟩
      refine q1.ret s1 ?_
      unfold rgD
      rw [Int.sub_zero]
      exact rJ_range
    · exact q1.elim
  · exact q1.elim
theorem di_range2 (hm : X.mg "range" = none) (ha : DA X W [a, b] fs) (hg : Gl X "range" := by rfl) (hs : starEach [a, b] X.env = [(false, eval a X.env), (false, eval b X.env)] := by rfl) (hs2 : starEach [b] X.env = [(false, eval b X.env)] := by rfl) :
    DI X W tg (.Call (.Name "range" p) [a, b] [] pos) (rg2 fs) := by
  refine PI.imp (pi_range2 hg hm ha hs hs2) fun σ H R ⟨Z, A, O, m, s, q⟩ => ⟨Z, A, O, m, s, RP.bind q fun vs ds m1 A1 O1 H1 ev s1 r1 q1 => ?_⟩
  split at q1
  · rename_i i n
    split at q1
    · rename_i hn
      obtain ⟨v, w, rfl, r2, r3⟩ := reps2 r1
      cases r2
      cases r3
      exact ⟨i, n, rfl, by omega, q1.ret s1 rJ_range⟩
    · exact q1.elim
  · exact q1.elim
end
end Wd

namespace Wd
open PySem PySem.Spec PyProof.Rows L2

/-! ### comprehensions -/
def wipeR : List Nat → List Sl → List Sl
  | [], r => r
  | v :: vs, r => (wipeR vs r).set v .un
def wipeM (vs : List Nat) (m : Ms) : Ms := ⟨wipeR vs m.r, m.S⟩
def wipeO : List Nat → Ow → Ow
  | [], O => O
  | v :: vs, O => (wipeO vs O).set v none
def restR : List Nat → List Sl → List Sl → List Sl
  | [], _, r2 => r2
  | v :: vs, r1, r2 => (restR vs r1 r2).set v (r1.getD v .un)
def Res.noX {α : Type} (r : Res α) : Res α := match r with
  | .exc _ _ => .stuck
  | r => r
def lcD (vs : List Nat) (g : Tg) (t : Ms → Res Bool) (f : Ms → Res D) : List D → List D → Ms → Res (List D)
  | [], acc, m => .ok acc m
  | d :: ds, acc, m => match g d m with
    | none => .stuck
    | some m1 => (t m1).noX.bind fun b m2 => if b = true then (f m2).noX.bind fun y m3 => if acc.length < 16777216 then lcD vs g t f ds (acc ++ [y]) (wipeM vs m3) else .stuck else lcD vs g t f ds acc (wipeM vs m2)
def canWipe (vs : List Nat) (m : Ms) : Bool := vs.all fun i => match m.r[i]? with
  | some (.own _) => false
  | _ => true
def nLc (src : Ms → Res (List D)) (vs : List Nat) (g : Tg) (t : Ms → Res Bool) (f : Ms → Res D) (m : Ms) : Res (List D) := (src m).bind fun ds m1 => if canWipe vs m1 = true then (lcD vs g t f ds [] (wipeM vs m1)).bind fun acc m2 => .ok acc ⟨restR vs m1.r m2.r, m2.S⟩ else .stuck
abbrev WF : WX := fun _ _ _ _ => False
section
variable {K : PySem.W.Frag} {Z A A' : List Addr} {O O' : Ow} {H H' : Hp} {σ : L2.St} {m m' : Ms} {vs : List Nat}
theorem RS.wipe (s : RS K Z A O H σ m) : ∀ vs : List Nat, RS K Z A (wipeO vs O) H (L2.wipe σ vs) (wipeM vs m)
  | [] => s
  | v :: vs => (RS.wipe s vs).setUn v none
theorem Ev.wipe : ∀ vs : List Nat, Ev A O H A (wipeO vs O) H
  | [] => .refl
  | v :: vs => (Ev.wipe vs).trans .set_none
theorem wipe_at {σ : L2.St} : ∀ {vs : List Nat} {j : Nat}, j ∉ vs → (L2.wipe σ vs)[j]? = σ[j]?
  | [], _, _ => rfl
  | v :: vs, j, h => by
    show ((L2.wipe σ vs).set v none)[j]? = _
    rw [List.getElem?_set_ne (fun z => h (by simp [z]))]
    exact wipe_at fun z => h (List.mem_cons_of_mem _ z)
theorem wipe_in {σ : L2.St} : ∀ {vs : List Nat} {j : Nat}, j ∈ vs → j < σ.length → (L2.wipe σ vs)[j]? = some none
  | v :: vs, j, h, hl => by
    show ((L2.wipe σ vs).set v none)[j]? = _
    by_cases e : v = j
    · subst e
      rw [List.getElem?_set_self (by rw [wipe_length]; exact hl)]
    · rw [List.getElem?_set_ne e]
      rcases List.mem_cons.mp h with z | z
      · exact absurd z.symm e
      · exact wipe_in z hl
theorem wipe_beside {σ σ' : L2.St} (h : Beside vs σ σ') : L2.wipe σ' vs = L2.wipe σ vs := by
  apply List.ext_getElem?
  intro j
  by_cases hj : j ∈ vs
  · by_cases hl : j < σ.length
    · rw [wipe_in hj hl, wipe_in hj (by rw [h.1]; exact hl)]
    · rw [List.getElem?_eq_none (by rw [wipe_length, h.1]; omega), List.getElem?_eq_none (by rw [wipe_length]; omega)]
  · rw [wipe_at hj, wipe_at hj, h.2 j hj]
theorem wipe_twice (vs : List Nat) : L2.wipe (L2.wipe σ vs) vs = L2.wipe σ vs := wipe_beside ⟨wipe_length _ _, fun _ h => wipe_at h⟩
theorem wipeR_in : ∀ {vs : List Nat} {r : List Sl} {j : Nat}, j ∈ vs → j < r.length → (wipeR vs r)[j]? = some .un
  | v :: vs, r, j, h, hl => by
    have len : ∀ (vs : List Nat) (r : List Sl), (wipeR vs r).length = r.length := fun vs r => by
      induction vs with
      | nil => rfl
      | cons v vs ih => simp [wipeR, ih]
    show ((wipeR vs r).set v .un)[j]? = _
    by_cases e : v = j
    · subst e
      rw [List.getElem?_set_self (by rw [len]; exact hl)]
    · rw [List.getElem?_set_ne e]
      rcases List.mem_cons.mp h with z | z
      · exact absurd z.symm e
      · exact wipeR_in z hl
theorem restR_len (r1 : List Sl) : ∀ (vs : List Nat) (r2 : List Sl), (restR vs r1 r2).length = r2.length
  | [], _ => rfl
  | v :: vs, r2 => by simp [restR, restR_len r1 vs r2]
theorem restR_in {r1 : List Sl} : ∀ {vs : List Nat} {r2 : List Sl} {j : Nat}, j ∈ vs → j < r2.length → (restR vs r1 r2)[j]? = some (r1.getD j .un)
  | v :: vs, r2, j, h, hl => by
    show ((restR vs r1 r2).set v _)[j]? = _
    by_cases e : v = j
    · subst e
      rw [List.getElem?_set_self (by rw [restR_len]; exact hl)]
    · rw [List.getElem?_set_ne e]
      rcases List.mem_cons.mp h with z | z
      · exact absurd z.symm e
      · exact restR_in z hl
theorem restR_out {r1 : List Sl} : ∀ {vs : List Nat} {r2 : List Sl} {j : Nat}, j ∉ vs → (restR vs r1 r2)[j]? = r2[j]?
  | [], _, _, _ => rfl
  | v :: vs, r2, j, h => by
    show ((restR vs r1 r2).set v _)[j]? = _
    rw [List.getElem?_set_ne (fun z => h (by simp [z]))]
    exact restR_out fun z => h (List.mem_cons_of_mem _ z)
/-- the heap without D -/
def del (H : Hp) (D : Addr) : Hp := fun b => if b = D then none else H b
/-- behind a comprehension: its names are as they were, its list is new -/
theorem RS.rest {D : Addr} {xs : List V} {A1 : List Addr} {O1 : Ow} {H1 : Hp} {m1 : Ms} (s1 : RS K Z A1 O1 H1 σ m1) (hw : canWipe vs m1 = true) (hD : H1 D = none) (ev : Ev A1 O1 (upd H1 D (.lst xs)) A O H) (s : RS K (D :: Z) A O H (L2.wipe σ vs) m) (hm : ∀ j, j ∈ vs → j < m.r.length → m.r[j]? = some .un)
    (hx : H D = some (.lst xs)) {acc : List Wd.D} (rx : Reps K A (bad A O (D :: Z)) H xs acc) : ∃ H2, H2 D = none ∧ upd H2 D (.lst xs) = H ∧ Ev A1 O1 H1 A O H2 ∧ RS K Z A O H2 σ ⟨restR vs m1.r m.r, m.S⟩ ∧ Reps K A (bad A O Z) H2 xs acc := by
  have hne : ∀ a, a ≠ D → del H D a = H a := fun a h => if_neg h
  refine ⟨del H D, if_pos rfl, ?_, ?_, ?_, ?_⟩
  · funext b
    by_cases e : b = D
    · subst e; rw [upd_same, hx]
    · rw [upd_ne e]; exact hne b e
  · obtain ⟨A2, e2, f2⟩ := ev.pre
    have back : ∀ a, upd H1 D (.lst xs) a = none → H1 a = none := fun a e => by
      by_cases z : a = D
      · subst z; rw [upd_same] at e; cases e
      · rw [upd_ne z] at e; exact e
    refine ⟨⟨A2, e2, fun a ha => back a (f2 a ha)⟩, fun a ha => (ev.own a ha).imp id (back a), fun a o h1 h2 e => ?_, fun a e => ?_⟩
    · have nd : a ≠ D := fun z => by rw [z, hD] at e; cases e
      rw [hne a nd]
      exact ev.keep a o h1 h2 (by rw [upd_ne nd]; exact e)
    · by_cases z : a = D
      · rw [z]; exact hD
      · rw [hne a z] at e
        exact back a (ev.dom a e)
  · -- the state
    have nA : D ∉ A := fun z => by
      obtain ⟨A2, e2, f2⟩ := ev.pre
      rw [e2] at z
      rcases List.mem_append.mp z with z | z
      · exact s1.notBad hD (mem_bad.mpr (.inl z))
      · have := f2 D z
        rw [upd_same] at this
        cases this
    have nO : D ∉ own O := fun z => (s.apart D z).2 (by simp)
    have inZ : ∀ a, a ∈ bad A O Z → a ∈ bad A O (D :: Z) := fun a h => by
      rcases mem_bad.mp h with z | z | z
      · exact mem_bad.mpr (.inl z)
      · exact mem_bad.mpr (.inr (.inl z))
      · exact mem_bad.mpr (.inr (.inr (List.mem_cons_of_mem _ z)))
    have c : Carry A A (bad A O (D :: Z)) (bad A O Z) H (del H D) := ⟨fun _ _ e => e, fun a o h e => by
      rw [hne a (fun z => h (by rw [z]; exact mem_bad.mpr (.inr (.inr (by simp)))))]
      exact e, fun a h => .inl (inZ a h)⟩
    have slen : σ.length = m.r.length := by rw [← s.slen, wipe_length]
    have evc : Carry A1 A (bad A1 O1 Z) (bad A O Z) H1 (del H D) := by
      obtain ⟨A2, e2, f2⟩ := ev.pre
      refine ⟨fun n a e => by rw [e2, List.getElem?_append_left (List.getElem?_eq_some_iff.mp e).1]; exact e, fun a o h e => ?_, fun a h => ?_⟩
      · have nd : a ≠ D := fun z => by rw [z, hD] at e; cases e
        rw [hne a nd]
        exact ev.keep a o (fun z => h (mem_bad.mpr (.inl z))) (fun z => h (mem_bad.mpr (.inr (.inl z)))) (by rw [upd_ne nd]; exact e)
      · have back : upd H1 D (.lst xs) a = none → H1 a = none := fun e => by
          by_cases z : a = D
          · subst z; rw [upd_same] at e; cases e
          · rw [upd_ne z] at e; exact e
        rcases mem_bad.mp h with z | z | z
        · rw [e2] at z
          rcases List.mem_append.mp z with z | z
          · exact .inl (mem_bad.mpr (.inl z))
          · exact .inr (back (f2 a z))
        · rcases ev.own a z with q | q
          · exact .inl (mem_bad.mpr (.inr (.inl q)))
          · exact .inr (back q)
        · exact .inl (mem_bad.mpr (.inr (.inr z)))
    refine ⟨⟨s.sim.len, s.sim.nd, fun n o e => ?_⟩, by rw [restR_len]; exact slen, by rw [restR_len]; exact s.olen, fun i x o l e1 e2 e3 => ?_, s.inj, fun a h => ⟨(s.apart a h).1, fun z => (s.apart a h).2 (List.mem_cons_of_mem _ z)⟩, fun a h e => ?_⟩
    · obtain ⟨a, ea, q⟩ := s.sim.obj n o e
      refine ⟨a, ea, q.carry c fun ys ey => ?_⟩
      rw [hne a (fun z => nA (by rw [← z]; exact List.mem_of_getElem? ea))]
      exact ey
    · by_cases hi : i ∈ vs
      · have hl : i < m.r.length := by rw [← slen]; exact (List.getElem?_eq_some_iff.mp e1).1
        have e3' : (restR vs m1.r m.r)[i]? = some l := e3
        rw [restR_in hi hl] at e3'
        cases e3'
        have sl := s.slot i none o .un (wipe_in hi (by rw [slen]; exact hl)) e2 (hm i hi hl)
        have eo : o = none := sl
        subst eo
        have hl1 : i < m1.r.length := by rw [← s1.slen, slen]; exact hl
        obtain ⟨x', o', g1, g2, sl1⟩ := s1.at (List.getElem?_eq_getElem hl1)
        rw [e1] at g1
        cases g1
        rw [List.getD_eq_getElem?_getD, List.getElem?_eq_getElem hl1, Option.getD_some]
        cases em : m1.r[i] with
        | un => rfl
        | own ds =>
          have := List.all_eq_true.mp hw i hi
          rw [List.getElem?_eq_getElem hl1, em] at this
          cases this
        | val d =>
          rw [em] at sl1
          obtain ⟨_, v, ev', r⟩ := sl1
          exact ⟨rfl, v, ev', r.carry evc⟩
      · have e3' : (restR vs m1.r m.r)[i]? = some l := e3
        rw [restR_out hi] at e3'
        refine (s.slot i x o l (by rw [wipe_at hi]; exact e1) e2 e3').carry c fun a ys eo ey => ?_
        rw [hne a (fun z => nO (by rw [← z]; exact mem_own.mpr ⟨i, by rw [e2, eo]⟩))]
        exact ey
    · by_cases z : a = D
      · exact s1.zin a h (by rw [z]; exact hD)
      · have e' : del H D a = none := e
        rw [hne a z] at e'
        exact s.zin a (List.mem_cons_of_mem _ h) e'
  · refine rx.carry ⟨fun _ _ e => e, fun a o h e => ?_, fun a h => .inl ?_⟩
    · rw [hne a (fun z => h (by rw [z]; exact mem_bad.mpr (.inr (.inr (by simp)))))]
      exact e
    · rcases mem_bad.mp h with z | z | z
      · exact mem_bad.mpr (.inl z)
      · exact mem_bad.mpr (.inr (.inl z))
      · exact mem_bad.mpr (.inr (.inr (List.mem_cons_of_mem _ z)))
/-- a new list that is yet to grow, kept apart -/
theorem RS.apartZ {D : Addr} (s : RS K Z A O H σ m) (hD : H D = none) : RS K (D :: Z) A O (upd H D (.lst [])) σ m := by
  have nb := s.notBad hD
  have c : Carry A A (bad A O Z) (bad A O (D :: Z)) H (L2.upd H D (.lst [])) := .grow (fun a h => by
    rcases mem_bad.mp h with z | z | z
    · exact .inl (mem_bad.mpr (.inl z))
    · exact .inl (mem_bad.mpr (.inr (.inl z)))
    · rcases List.mem_cons.mp z with z | z
      · rw [z]; exact .inr hD
      · exact .inl (mem_bad.mpr (.inr (.inr z)))) (upd_grow hD)
  refine ⟨s.sim.upd c fun z => nb (mem_bad.mpr (.inl z)), s.slen, s.olen, fun i x o l e1 e2 e3 => (s.slot i x o l e1 e2 e3).carry c fun a xs _ e => upd_grow hD a _ e, s.inj, fun a h => ⟨(s.apart a h).1, fun z => ?_⟩, fun a h e => ?_⟩
  · rcases List.mem_cons.mp z with z | z
    · exact nb (mem_bad.mpr (.inr (.inl (by rw [← z]; exact h))))
    · exact (s.apart a h).2 z
  · rcases List.mem_cons.mp h with z | z
    · rw [z, upd_same] at e; cases e
    · have h1 := s.zin a z
      cases q : H a with
      | none => exact h1 q
      | some o => rw [upd_grow hD a o q] at e; cases e
end
section
variable {X : Cx} {W : WX} {tg iter elt : Expr} {ifs : List Expr} {pos spos : Pos} {f : Ms → Res D} {t : Ms → Res Bool} {fq : Ms → Res (List D)} {g : Tg} {scope : Scope} {own : List (Str × Nat)}
abbrev DTs (X : Cx) (W : WX) (ifs : List Expr) (t : Ms → Res Bool) : Prop := PTs X ifs (tG X.K X.mg W rB t)
def tYesD (m : Ms) : Res Bool := .ok true m
theorem dts_nil : DTs X W [] tYesD := ⟨fun pins s σ H Q I ⟨Z, A, O, m, rs, q⟩ => pts_nil.run pins s σ H Q I (q.ret rs rfl)⟩
theorem dts_one {c : Expr} (h : DT X W c t) : DTs X W [c] t := pts_one h
theorem lc_read (hw : fq = fq) {σ : L2.St} {H : Hp} {Q : VK} {vs : List Nat} (q : tN X.K X.mg W (nLc fq vs g t f) σ H Q) :
    tLc (tG X.K X.mg W (rJ X.K) fq) (tTg X.K vs g) (tG X.K X.mg WF rB t) (tG X.K X.mg WF (rD X.K) f) vs σ H Q := by
  obtain ⟨Z, A, O, m, s, q⟩ := q
  refine ⟨Z, A, O, m, s, RP.bind q fun J ds m1 A1 O1 H1 ev s1 j q1 => fun D hD => ?_⟩
  by_cases hw : canWipe vs m1 = true
  · rw [if_pos hw] at q1
    refine ⟨fun i n H2 => ∃ A2 O2 m2 acc xs, Ev A1 O1 (upd H1 D (.lst xs)) A2 O2 H2 ∧ RS X.K (D :: Z) A2 O2 H2 (L2.wipe σ vs) m2 ∧ (∀ j, j ∈ vs → j < m2.r.length → m2.r[j]? = some .un) ∧ i + n = ds.length ∧ H2 D = some (.lst xs) ∧ Reps X.K A2 (bad A2 O2 (D :: Z)) H2 xs acc ∧
      lcD vs g t f ds [] (wipeM vs m1) = lcD vs g t f (ds.drop i) acc m2, ⟨ds.length, A1, wipeO vs O1, wipeM vs m1, [], [], .wipe vs, (s1.apartZ hD).wipe vs, fun j hj hl => wipeR_in hj (by
        have len : ∀ (vs : List Nat) (r : List Sl), (wipeR vs r).length = r.length := fun vs r => by
          induction vs with
          | nil => rfl
          | cons v vs ih => simp [wipeR, ih]
        have hl' : j < (wipeR vs m1.r).length := hl
        rw [len] at hl'; exact hl'), by omega, upd_same, .nil, rfl⟩, ?_⟩
    rintro i n H2 ⟨A2, O2, m2, acc, xs, ev2, s2, hm2, hn, hx, rx, e⟩
    obtain ⟨go, stop, yld⟩ := j A2 (bad A2 O2 (D :: Z)) H2 (by
      have c1 : Carry A1 A1 (bad A1 O1 Z) (bad A1 O1 (D :: Z)) H1 (upd H1 D (.lst xs)) := .grow (fun a h => by
        rcases mem_bad.mp h with z | z | z
        · exact .inl (mem_bad.mpr (.inl z))
        · exact .inl (mem_bad.mpr (.inr (.inl z)))
        · rcases List.mem_cons.mp z with z | z
          · rw [z]; exact .inr hD
          · exact .inl (mem_bad.mpr (.inr (.inr z)))) (upd_grow hD)
      have c2 := ev2.carry (Z := D :: Z)
      refine ⟨fun k a h => c2.loc k a (c1.loc k a h), fun a o h e => c2.keep a o (c1.nin h e) (c1.keep a o h e), fun a h => ?_⟩
      rcases c2.out a h with z | z
      · exact c1.out a z
      · refine .inr ?_
        cases q : H1 a with
        | none => rfl
        | some o => rw [upd_grow hD a o q] at z; cases z) s2.badIn
    by_cases hi : i < ds.length
    · refine .inr ⟨go i hi, fun H' => ∃ A2 O2 m2 acc xs, Ev A1 O1 (upd H1 D (.lst xs)) A2 O2 H' ∧ RS X.K (D :: Z) A2 O2 H' (L2.wipe σ vs) m2 ∧ (∀ j, j ∈ vs → j < m2.r.length → m2.r[j]? = some .un) ∧ H' D = some (.lst xs) ∧ Reps X.K A2 (bad A2 O2 (D :: Z)) H' xs acc ∧
          lcD vs g t f ds [] (wipeM vs m1) = lcD vs g t f (ds.drop (i + 1)) acc m2, fun H' ⟨a1, a2, a3, a4, a5, a6, a7, a8, a9, a10, a11⟩ => ⟨n - 1, by omega, a1, a2, a3, a4, a5, a6, a7, a8, by omega, a9, a10, a11⟩, fun x H3 hy => ?_⟩
      obtain ⟨hH, d, hd, r⟩ := yld i x H3 hi hy
      have gr : ∀ a o, H2 a = some o → H3 a = some o := by
        rcases hH with rfl | ⟨T, o, hT, rfl⟩
        · exact fun _ _ e => e
        · exact upd_grow hT
      have s3 := s2.grow gr
      have ev3 : Ev A2 O2 H2 A2 O2 H3 := .grow gr
      have ed : ds.drop i = d :: ds.drop (i + 1) := by
        rw [List.drop_eq_getElem_cons hi]
        rw [List.getElem?_eq_getElem hi] at hd
        rw [Option.some.inj hd]
      have nst : lcD vs g t f ds [] (wipeM vs m1) ≠ .stuck := fun z => by rw [z] at q1; exact q1
      rw [ed] at e
      simp only [lcD] at e
      cases eg : g d m2 with
      | none => rw [eg] at e; exact absurd e nst
      | some m3 =>
        rw [eg] at e
        dsimp only at e
        refine ⟨D :: Z, A2, O2, m2, d, s3, r, m3, eg, fun σ4 A4 O4 H4 b4 ev4 s4 => ⟨(wipe_beside b4).trans (wipe_twice vs), D :: Z, A4, O4, m3, s4, ?_⟩⟩
        have w4 : L2.wipe σ4 vs = L2.wipe σ vs := (wipe_beside b4).trans (wipe_twice vs)
        cases et : t m3 with
        | exc x m4 => rw [et] at e; exact absurd e nst
        | stuck => rw [et] at e; exact absurd e nst
        | ok b m4 =>
          rw [et] at e
          intro v A5 O5 H5 ev5 s5 r5
          cases r5
          have ev25 := (ev3.trans ev4).trans ev5
          have keepD : ∀ {A' O' H'}, Ev A2 O2 H2 A' O' H' → H' D = some (.lst xs) := fun {A' O' H'} h => h.keep D _ (fun z => by
              obtain ⟨A6, e6, f6⟩ := ev2.pre
              rw [e6] at z
              rcases List.mem_append.mp z with z | z
              · exact s1.notBad hD (mem_bad.mpr (.inl z))
              · have := f6 D z
                rw [upd_same] at this
                cases this) (fun z => (s2.apart D z).2 (by simp)) hx
          cases b with
          | false =>
            refine iteF ⟨A5, wipeO vs O5, wipeM vs m4, acc, xs, (ev2.trans ev25).trans (.wipe vs), ?_, fun j hj hl => wipeR_in hj ?_, keepD ev25, (rx.carry (ev25.trans (.wipe vs)).carry), e⟩
            · rw [← w4]; exact s5.wipe vs
            · have len : ∀ (vs : List Nat) (r : List Sl), (wipeR vs r).length = r.length := fun vs r => by
                induction vs with
                | nil => rfl
                | cons v vs ih => simp [wipeR, ih]
              have hl' : j < (wipeR vs m4.r).length := hl
              rw [len] at hl'; exact hl'
          | true =>
            have e' : lcD vs g t f ds [] (wipeM vs m1) = (f m4).noX.bind fun y m5 => if acc.length < 16777216 then lcD vs g t f (ds.drop (i + 1)) (acc ++ [y]) (wipeM vs m5) else .stuck := e
            refine iteT ⟨D :: Z, A5, O5, m4, s5, ?_⟩
            cases ef : f m4 with
            | exc x m5 => rw [ef] at e'; exact absurd e' nst
            | stuck => rw [ef] at e'; exact absurd e' nst
            | ok y m5 =>
              rw [ef] at e'
              have e'' : lcD vs g t f ds [] (wipeM vs m1) = if acc.length < 16777216 then lcD vs g t f (ds.drop (i + 1)) (acc ++ [y]) (wipeM vs m5) else .stuck := e'
              intro v A6 O6 H6 ev6 s6 r6
              have ev26 := ev25.trans ev6
              by_cases hz : acc.length < 16777216
              · rw [if_pos hz] at e''
                have hx6 := keepD ev26
                have rx6 := rx.carry (ev26.carry (Z := D :: Z))
                refine ⟨xs, hx6, by rw [rx.len]; exact lim_lt hz, A6, wipeO vs O6, wipeM vs m5, acc ++ [y], xs ++ [v], ?_⟩
                -- the list grows: D is beside all
                have inB : D ∈ bad A6 O6 (D :: Z) := mem_bad.mpr (.inr (.inr (by simp)))
                have nO6 : D ∉ Wd.own O6 := fun z => (s6.apart D z).2 (by simp)
                have nA6 : D ∉ A6 := fun z => by
                  obtain ⟨A7, e7, f7⟩ := (ev2.trans ev26).pre
                  rw [e7] at z
                  rcases List.mem_append.mp z with z | z
                  · exact s1.notBad hD (mem_bad.mpr (.inl z))
                  · have := f7 D z
                    rw [upd_same] at this
                    cases this
                have cg : Carry A6 A6 (bad A6 O6 (D :: Z)) (bad A6 O6 (D :: Z)) H6 (upd H6 D (.lst (xs ++ [v]))) := ⟨fun _ _ e => e, fun a o h e => by
                  rw [upd_ne (fun z => h (by rw [z]; exact inB))]
                  exact e, fun _ h => .inl h⟩
                have s7 : RS X.K (D :: Z) A6 O6 (upd H6 D (.lst (xs ++ [v]))) σ4 m5 := by
                  refine ⟨s6.sim.upd cg nA6, s6.slen, s6.olen, fun i x o l e1 e2 e3 => (s6.slot i x o l e1 e2 e3).carry cg fun a zs eo ez => ?_, s6.inj, s6.apart, fun a h e => ?_⟩
                  · rw [upd_ne (fun z => nO6 (by rw [← z]; exact mem_own.mpr ⟨i, by rw [e2, eo]⟩))]
                    exact ez
                  · by_cases z : a = D
                    · rw [z, upd_same] at e; cases e
                    · rw [upd_ne z] at e
                      exact s6.zin a h e
                have ev7 : Ev A1 O1 (upd H1 D (.lst (xs ++ [v]))) A6 O6 (upd H6 D (.lst (xs ++ [v]))) := by
                  have ev0 := ev2.trans ev26
                  have same : ∀ a, a ≠ D → upd H1 D (.lst (xs ++ [v])) a = upd H1 D (.lst xs) a := fun a h => by rw [upd_ne h, upd_ne h]
                  have non : ∀ a, upd H1 D (.lst xs) a = none → upd H1 D (.lst (xs ++ [v])) a = none := fun a e => by
                    by_cases z : a = D
                    · rw [z, upd_same] at e; cases e
                    · rw [same a z]; exact e
                  obtain ⟨A7, e7, f7⟩ := ev0.pre
                  refine ⟨⟨A7, e7, fun a h => non a (f7 a h)⟩, fun a h => (ev0.own a h).imp id (non a), fun a o h1 h2 e => ?_, fun a e => ?_⟩
                  · by_cases z : a = D
                    · rw [z, upd_same] at e ⊢; exact e
                    · rw [upd_ne z]
                      exact ev0.keep a o h1 h2 (by rw [← same a z]; exact e)
                  · by_cases z : a = D
                    · rw [z, upd_same] at e; cases e
                    · rw [upd_ne z] at e
                      exact non a (ev0.dom a e)
                refine ⟨ev7.trans (.wipe vs), ?_, ?_, ?_, ?_, ?_⟩
                · rw [← w4]; exact s7.wipe vs
                · intro j hj hl
                  refine wipeR_in hj ?_
                  have len : ∀ (vs : List Nat) (r : List Sl), (wipeR vs r).length = r.length := fun vs r => by
                    induction vs with
                    | nil => rfl
                    | cons v vs ih => simp [wipeR, ih]
                  have hl' : j < (wipeR vs m5.r).length := hl
                  rw [len] at hl'; exact hl'
                · exact upd_same
                · exact ((rx6.app (.cons r6 .nil)).carry cg).carry (Ev.wipe vs).carry
                · exact e''
              · rw [if_neg hz] at e''
                exact absurd e'' nst
    · have ei : i = ds.length := by omega
      subst ei
      refine .inl ⟨stop, ?_⟩
      rw [List.drop_length] at e
      rw [e] at q1
      obtain ⟨H4, h1, h2, h3, h4, h5⟩ := s1.rest hw hD ev2 s2 hm2 hx rx
      have q2 := q1 xs A2 O2 H4 h3 h4 h5 D h1
      rw [h2] at q2
      exact q2
  · rw [if_neg hw] at q1
    exact q1.elim
end
end Wd

namespace Wd
open PySem PySem.Spec PyProof.Rows L2

section
variable {X : Cx} {W : WX} {tg iter elt : Expr} {ifs : List Expr} {pos spos : Pos} {f : Ms → Res D} {t : Ms → Res Bool} {fq : Ms → Res (List D)} {g : Tg} {scope : Scope} {own : List (Str × Nat)}
/-- [elt for tg in iter if ..] -/
theorem dn_lc (own : List (Str × Nat)) (hc : X.calm = true) (hN : X.N.Nodup) (hi : DI X W tg iter fq) (ok : BlkOk X.N X.env.scope scope own)
    (hg : ∀ (s : Shared) (H : Hp) (C : Addr) (cl : List (Str × Addr)) (fp : List Addr), DG (X.blk s H scope (compEnvC scope cl C X.env) fp) tg (own.map fun (x : Str × Nat) => x.2) g)
    (ht : ∀ (s : Shared) (H : Hp) (C : Addr) (cl : List (Str × Addr)) (fp : List Addr), DTs (X.blk s H scope (compEnvC scope cl C X.env) fp) WF ifs t)
    (he : ∀ (s : Shared) (H : Hp) (C : Addr) (cl : List (Str × Addr)) (fp : List Addr), DE (X.blk s H scope (compEnvC scope cl C X.env) fp) WF elt f) (hs : ∀ x, foldedSetIterable iter X.env x = pure x := by intro _; rfl) :
    DN X W (.ListComp elt [⟨tg, iter, ifs, 0⟩] scope pos) (nLc fq (own.map fun (x : Str × Nat) => x.2) g t f) :=
  PE.imp (pe_lc (own := own) (wi := tG X.K X.mg W (rJ X.K) fq) (g := tTg X.K (own.map fun (x : Str × Nat) => x.2) g) (tt := tG X.K X.mg WF rB t) (te := tG X.K X.mg WF (rD X.K) f) hc hN hi ok hg ht he hs) fun σ H Q q => lc_read rfl q
/-- y = [..], y a local: a list of the frame's own; a value -/
theorem ds_ownLc (i : Nat) (own : List (Str × Nat)) {y : Str} {py : Pos} (hc : X.calm = true) (hN : X.N.Nodup) (hi : DI X W tg iter fq) (ok : BlkOk X.N X.env.scope scope own)
    (hg : ∀ (s : Shared) (H : Hp) (C : Addr) (cl : List (Str × Addr)) (fp : List Addr), DG (X.blk s H scope (compEnvC scope cl C X.env) fp) tg (own.map fun (x : Str × Nat) => x.2) g)
    (ht : ∀ (s : Shared) (H : Hp) (C : Addr) (cl : List (Str × Addr)) (fp : List Addr), DTs (X.blk s H scope (compEnvC scope cl C X.env) fp) WF ifs t)
    (he : ∀ (s : Shared) (H : Hp) (C : Addr) (cl : List (Str × Addr)) (fp : List Addr), DE (X.blk s H scope (compEnvC scope cl C X.env) fp) WF elt f)
    (hsw : swapsWith (.ListComp elt [⟨tg, iter, ifs, 0⟩] scope pos) (some (.Name y py)) spos.line X.env = pure true) (hy : X.N[i]? = some y := by rfl) (hyl : X.env.scope.names.lookup y = some .local := by rfl)
    (hs : ∀ x, foldedSetIterable iter X.env x = pure x := by intro _; rfl) :
    DS X W (.Assign [.Name y py] (.ListComp elt [⟨tg, iter, ifs, 0⟩] scope pos) spos) (sOwn i (nLc fq (own.map fun (x : Str × Nat) => x.2) g t f)) :=
  PS.imp (ps_setLc (own := own) (wi := tG X.K X.mg W (rJ X.K) fq) (g := tTg X.K (own.map fun (x : Str × Nat) => x.2) g) (tt := tG X.K X.mg WF rB t) (te := tG X.K X.mg WF (rD X.K) f) hc hN hy hyl hsw hi ok hg ht he hs) fun D σ H ⟨Z, A, O, m, s, q⟩ =>
    lc_read (W := W) (Q := fun x H1 => gName i x σ H1 D.nx) rfl ⟨Z, A, O, m, s, SPD.sb q fun xs ds m1 A1 O1 H1 ev s1 r1 q1 p hp => q1 _ A1 _ _ (.set_own hp) (s1.setOwn i hp r1)⟩
theorem ds_setLc (i : Nat) (own : List (Str × Nat)) {y : Str} {py : Pos} (hc : X.calm = true) (hN : X.N.Nodup) (hi : DI X W tg iter fq) (ok : BlkOk X.N X.env.scope scope own)
    (hg : ∀ (s : Shared) (H : Hp) (C : Addr) (cl : List (Str × Addr)) (fp : List Addr), DG (X.blk s H scope (compEnvC scope cl C X.env) fp) tg (own.map fun (x : Str × Nat) => x.2) g)
    (ht : ∀ (s : Shared) (H : Hp) (C : Addr) (cl : List (Str × Addr)) (fp : List Addr), DTs (X.blk s H scope (compEnvC scope cl C X.env) fp) WF ifs t)
    (he : ∀ (s : Shared) (H : Hp) (C : Addr) (cl : List (Str × Addr)) (fp : List Addr), DE (X.blk s H scope (compEnvC scope cl C X.env) fp) WF elt f)
    (hsw : swapsWith (.ListComp elt [⟨tg, iter, ifs, 0⟩] scope pos) (some (.Name y py)) spos.line X.env = pure true) (hy : X.N[i]? = some y := by rfl) (hyl : X.env.scope.names.lookup y = some .local := by rfl)
    (hs : ∀ x, foldedSetIterable iter X.env x = pure x := by intro _; rfl) :
    DS X W (.Assign [.Name y py] (.ListComp elt [⟨tg, iter, ifs, 0⟩] scope pos) spos) (sSet i (eNew (nLc fq (own.map fun (x : Str × Nat) => x.2) g t f))) :=
  PS.imp (ps_setLc (own := own) (wi := tG X.K X.mg W (rJ X.K) fq) (g := tTg X.K (own.map fun (x : Str × Nat) => x.2) g) (tt := tG X.K X.mg WF rB t) (te := tG X.K X.mg WF (rD X.K) f) hc hN hy hyl hsw hi ok hg ht he hs) fun D σ H ⟨Z, A, O, m, s, q⟩ =>
    lc_read (W := W) (Q := fun x H1 => gName i x σ H1 D.nx) rfl ⟨Z, A, O, m, s, by
      have q' : SPD X.K X.mg W Z A O H D ((nLc fq (own.map fun (x : Str × Nat) => x.2) g t f m).sb fun ds m1 => .next (putV i (.lst ds) m1)) := by
        simp only [sSet, eNew] at q
        cases e : nLc fq (own.map fun (x : Str × Nat) => x.2) g t f m <;> rw [e] at q <;> exact q
      exact SPD.sb q' fun xs ds m1 A1 O1 H1 ev s1 r1 q1 p hp => q1 _ A1 _ _ ((Ev.new hp).trans .set_none) ((s1.new hp).setVal i (Rep.newLst s1 hp r1))⟩
end

/-! ### defs -/
inductive FR where
  | ok (d : D) (S : Store) | exc (x : Ex) (S : Store) | stuck
abbrev Fn := List D → Store → FR
structure FS (K : PySem.W.Frag) (Z A : List Addr) (S : Store) (H : Hp) : Prop where
  sim : Sim K A (bad A [] Z) S H
  zin : ∀ a, a ∈ Z → H a ≠ none
def FP (K : PySem.W.Frag) (mg : Str → Option Value) (Z A : List Addr) (H : Hp) (Q : VK) (E : XK) : FR → Prop
  | .ok d S => ∀ v A' H', Ev A [] H A' [] H' → FS K Z A' S H' → Rep K A' (bad A' [] Z) H' v d → Q v H'
  | .exc x S => ∀ cls dd A' H', Ev A [] H A' [] H' → FS K Z A' S H' → ExR K mg A' (bad A' [] Z) H' cls dd x → E cls dd H'
  | .stuck => False
def spD (K : PySem.W.Frag) (mg : Str → Option Value) (n : Nat) (F : Fn) : Sp := fun vs H Q E => vs.length = n ∧ ∃ Z A S ds, FS K Z A S H ∧ Reps K A (bad A [] Z) H vs ds ∧ FP K mg Z A H Q E (F ds S)
abbrev DFn (P : Program) (w : World) (K : PySem.W.Frag) (mg : Str → Option Value) (base : Heap) (k : Nat) (f : Addr) (fd : FuncData) (ps : List Str) (F : Fn) : Prop := FnOk P w K mg base (L2.CX P w) k f fd ps (spD K mg ps.length F)
def fCall (F : Fn) (fs : Ms → Res (List D)) (m : Ms) : Res D := (fs m).bind fun ds m1 => match F ds m1.S with
  | .ok d S => .ok d ⟨m1.r, S⟩
  | .exc x S => .exc x ⟨m1.r, S⟩
  | .stuck => .stuck
def runB (n : Nat) (body : Ms → SR) : Fn := fun ds S => match body ⟨ds.map .val ++ List.replicate (n - ds.length) .un, S⟩ with
  | .next m => .ok .non m.S
  | .ret d m => .ok d m.S
  | .exc x m => .exc x m.S
  | _ => .stuck
section
variable {K : PySem.W.Frag} {mg : Str → Option Value} {Z A A' : List Addr} {O : Ow} {H H' : Hp} {σ : L2.St} {m : Ms} {S S' : Store}
/-- what a callee is handed -/
theorem RS.toFS (s : RS K Z A O H σ m) : FS K (own O ++ Z) A m.S H := ⟨s.sim, fun a h => s.badIn a (List.mem_append_right _ h)⟩
theorem ev_call (s : RS K Z A O H σ m) (e : Ev A [] H A' [] H') : Ev A O H A' O H' := ⟨e.pre, fun a h => .inl h, fun a o h1 _ q => e.keep a o h1 (by simp [own]) q, e.dom⟩
/-- behind a call -/
theorem RS.back (s : RS K Z A O H σ m) (e : Ev A [] H A' [] H') (h : FS K (own O ++ Z) A' S' H') : RS K Z A' O H' σ ⟨m.r, S'⟩ := by
  have c := (ev_call s e).carry (Z := Z)
  have nA : ∀ a, a ∈ own O → a ∉ A' := fun a ha z => by
    obtain ⟨A1, e1, f1⟩ := e.pre
    rw [e1] at z
    rcases List.mem_append.mp z with z | z
    · exact (s.apart a ha).1 z
    · exact s.badIn a (mem_bad.mpr (.inr (.inl ha))) (f1 a z)
  refine ⟨h.sim, s.slen, s.olen, fun i x o l e1 e2 e3 => (s.slot i x o l e1 e2 e3).carry c fun a xs eo ex => ?_, s.inj, fun a ha => ⟨nA a ha, (s.apart a ha).2⟩, fun a ha => h.zin a (List.mem_append_right _ ha)⟩
  have ha : a ∈ own O := mem_own.mpr ⟨i, by rw [e2, eo]⟩
  exact e.keep a _ (s.apart a ha).1 (by simp [own]) ex
/-- the state at a def's entry -/
theorem FS.toRS {vs : List V} {ds : List D} {N : List Str} (h : FS K Z A S H) (r : Reps K A (bad A [] Z) H vs ds) : RS K Z A (List.replicate (L2.start N vs).length none) H (L2.start N vs) ⟨ds.map .val ++ List.replicate (N.length - ds.length) .un, S⟩ := by
  have e0 : own (List.replicate (L2.start N vs).length none) = [] := by
    unfold own
    rw [List.filterMap_eq_nil_iff]
    intro a ha
    rw [List.eq_of_mem_replicate ha]
    rfl
  have eb : bad A (List.replicate (L2.start N vs).length none) Z = bad A [] Z := by
    show A ++ (own _ ++ Z) = A ++ (own [] ++ Z)
    rw [e0]
    rfl
  refine ⟨by rw [eb]; exact h.sim, ?_, by simp [L2.start, r.len], fun i x o l e1 e2 e3 => ?_, fun i j a hi _ => ?_, fun a ha => (by rw [e0] at ha; cases ha), h.zin⟩
  · simp [L2.start, r.len]
  · rw [eb]
    have eo : o = none := (List.eq_of_mem_replicate (List.mem_of_getElem? e2))
    subst eo
    by_cases hi : i < ds.length
    · have e3' : (ds.map Sl.val ++ List.replicate (N.length - ds.length) Sl.un)[i]? = some l := e3
      rw [List.getElem?_append_left (by simpa using hi), List.getElem?_map, List.getElem?_eq_getElem hi] at e3'
      cases e3'
      obtain ⟨v, hv, rv⟩ := r.get (List.getElem?_eq_getElem hi)
      unfold L2.start at e1
      rw [List.getElem?_append_left (by rw [List.length_map, r.len]; exact hi), List.getElem?_map, hv] at e1
      cases e1
      exact ⟨rfl, v, rfl, rv⟩
    · have e3' : (ds.map Sl.val ++ List.replicate (N.length - ds.length) Sl.un)[i]? = some l := e3
      rw [List.getElem?_append_right (by simpa using hi)] at e3'
      have el := List.eq_of_mem_replicate (List.mem_of_getElem? e3')
      subst el
      exact rfl
  · have := List.eq_of_mem_replicate (List.mem_of_getElem? hi)
    cases this
end
section
variable {X : Cx} {W : WX} {k : Nat} {f : Addr} {fd : FuncData} {ps : List Str} {F : Fn} {x : Str} {p pos : Pos} {e : Expr} {es : List Expr} {fs : Ms → Res (List D)}
theorem de_call (tk : Takes X W) (G : DFn X.prog X.w X.K X.mg X.base k f fd ps F) (hr : Room k X.A) (hm : X.mg x = some (.ref f)) (hk : PySem.W.keepIn X.K (.ref f) = true) (hb : Binds X.K fd ps []) (ha : DA X W (e :: es) fs) (hl : (e :: es).length = ps.length := by rfl)
    (hg : Gl X x := by rfl) (hdb : (x == ("__debug__" : Str)) = false := by decide) (he : starEach (e :: es) X.env = (false, eval e X.env) :: starEach es X.env := by rfl) (hpl : (backTo pos (starEach es X.env)).any (·.1) = false := by rfl)
    (hlen : ∀ m ds m', fs m = .ok ds m' → ds.length = ps.length) :
    DE X W (.Call (.Name x p) (e :: es) [] pos) (fCall F fs) := by
  refine PE.imp (pe_callS G hr hg hm hk hb (fun σ => passAt tk σ) ha hdb he hpl) fun σ H Q ⟨Z, A, O, m, s, q⟩ => ⟨Z, A, O, m, s, ?_⟩
  cases ef : fs m with
  | exc y m1 => simp only [fCall, ef] at q; exact q
  | stuck => simp only [fCall, ef] at q; exact q.elim
  | ok ds m1 =>
    simp only [fCall, ef, Res.bind] at q
    intro vs A1 O1 H1 ev s1 r1
    refine ⟨by rw [r1.len]; exact hlen m ds m1 ef, own O1 ++ Z, A1, m1.S, ds, s1.toFS, r1, ?_⟩
    cases eF : F ds m1.S with
    | stuck => rw [eF] at q; exact q.elim
    | ok d S' =>
      rw [eF] at q
      exact fun v A2 H2 e2 h2 r2 => q v A2 O1 H2 (ev.trans (ev_call s1 e2)) (s1.back e2 h2) r2
    | exc y S' =>
      rw [eF] at q
      exact fun cls dd A2 H2 e2 h2 r2 => q cls dd A2 O1 H2 (ev.trans (ev_call s1 e2)) (s1.back e2 h2) r2
theorem len_cons {f : Ms → Res D} {fs : Ms → Res (List D)} {n : Nat} (h : ∀ m ds m', fs m = .ok ds m' → ds.length = n) : ∀ m ds m', aCons f fs m = .ok ds m' → ds.length = n + 1 := fun m ds m' e => by
  simp only [aCons] at e
  cases e1 : f m with
  | exc _ _ => rw [e1] at e; cases e
  | stuck => rw [e1] at e; cases e
  | ok d m1 =>
    rw [e1] at e
    simp only [Res.bind] at e
    cases e2 : fs m1 with
    | exc _ _ => rw [e2] at e; cases e
    | stuck => rw [e2] at e; cases e
    | ok ds' m2 =>
      rw [e2] at e
      have hh := h m1 ds' m2 e2
      cases e
      rw [List.length_cons, hh]
theorem len_nil : ∀ m ds m', aNil m = .ok ds m' → ds.length = 0 := fun m ds m' e => by cases e; rfl
end
section
variable {P : Program} {w : World} {K : PySem.W.Frag} {mg : Str → Option Value} {base : Heap}
abbrev WE0 (E : XK) : WX := fun cls d _ H => E cls d H
/-- THE RULE for a def: its body -/
theorem dfn_of {x qual : Str} {st : Stmt} {f : Addr} {fd : FuncData} {N ps : List Str} {k : Nat} {n : Nat} {body : Ms → SR} (F : Fun K x qual st f fd) (S : FnScope N ps (defScope st))
    (hb : ∀ (cdv : Value) (A : Around) (outer : List Env) (s : Shared) (H : Hp) (E : XK), Room k (A.deeper (envOfC qual (defScope st) s.heap.objs.size f cdv)) →
      DSs (cxOf (L2.CX P w) P w K mg base N qual (defScope st) f cdv A outer s H E) (WE0 E) (defBody st) body) (hn : N.length = n := by rfl) : DFn P w K mg base (k + 1) f fd ps (runB n body) := by
  subst hn
  refine F.okX S (fun vs H Q E h => h.1) fun cdv A outer s H vs Q E hr h => ⟨_, hb cdv A outer s H E hr, ?_⟩
  obtain ⟨hl, Z, A0, S0, ds, hs, r, q⟩ := h
  have e0 : ∀ a, a ∉ own (List.replicate (L2.start N vs).length none) := fun a ha => by
    obtain ⟨i, hi⟩ := mem_own.mp ha
    have := List.eq_of_mem_replicate (List.mem_of_getElem? hi)
    cases this
  have evb : ∀ {A' O' H'}, Ev A0 (List.replicate (L2.start N vs).length none) H A' O' H' → Ev A0 [] H A' [] H' := fun {A' O' H'} e => ⟨e.pre, fun a h => absurd h (by simp [own]), fun a o h1 _ q => e.keep a o h1 (e0 a) q, e.dom⟩
  have fsb : ∀ {A' O' H' σ' m'}, RS K Z A' O' H' σ' m' → FS K Z A' m'.S H' := fun {A' O' H' σ' m'} s => ⟨s.sim.less (.less fun _ z => bad_nil z), s.zin⟩
  refine ⟨Z, A0, List.replicate (L2.start N vs).length none, _, hs.toRS r, ?_⟩
  simp only [runB] at q
  cases eb : body ⟨ds.map .val ++ List.replicate (N.length - ds.length) .un, S0⟩ with
  | next m => rw [eb] at q; exact fun σ' A' O' H' ev s' => q .non A' H' (evb ev) (fsb s') .non
  | ret d m => rw [eb] at q; exact fun v σ' A' O' H' ev s' rv => q v A' H' (evb ev) (fsb s') rv
  | exc y m =>
    rw [eb] at q
    intro cls dd σ' A' O' H' ev s' ⟨C, h1, h2, h3⟩
    refine q cls dd A' H' (evb ev) (fsb s') ⟨C, h1, h2, ?_⟩
    rcases h3 with h3 | ⟨d, fn, v, de, g1, g2, g3, g4, g5⟩
    · exact .inl h3
    · exact .inr ⟨d, fn, v, de, g1, g2, g3, fun z => g4 (bad_nil z), g5.carry (.less fun _ z => bad_nil z)⟩
  | brk m => rw [eb] at q; exact q.elim
  | cnt m => rw [eb] at q; exact q.elim
  | stuck => rw [eb] at q; exact q.elim
theorem dfn_level {f : Addr} {fd : FuncData} {ps : List Str} {j k : Nat} {F : Fn} (G : DFn P w K mg base j f fd ps F) (h : j ≤ k := by decide) : DFn P w K mg base k f fd ps F := FnOk.mono G h
end
end Wd

namespace Wd
open PySem PySem.Spec PyProof.Rows L2
section
variable {X : Cx} {W : WX} {e a b c : Expr} {es : List Expr} {pos p : Pos} {f g : Ms → Res D} {fs fq : Ms → Res (List D)}
def oNeg (d : D) (m : Ms) : Res D := match d with
  | .int i => .ok (.int (-i)) m
  | _ => .stuck
theorem de_neg (ha : DE X W a f) : DE X W (.UnaryOp .USub a pos) (e1 oNeg f) :=
  PE.imp (pe_un un_neg ha) fun σ H Q ⟨Z, A, O, m, s, q⟩ => ⟨Z, A, O, m, s, RP.bind q fun v d m1 A1 O1 H1 ev s1 r1 q1 => by
    cases r1 with
    | int i => exact ⟨i, rfl, q1.ret s1 (.int _)⟩
    | _ => exact q1.elim⟩
/-- a module's number, text, tuple -/
theorem de_gint {x : Str} {i : Int} (h : ∃ t, X.mg x = some (.int i t)) (hg : Gl X x := by rfl) (hd : (x == ("__debug__" : Str)) = false := by decide) : DE X W (.Name x pos) (eC (.int i)) := by
  obtain ⟨t, ht⟩ := h
  exact de_glob (v := .int i) ht ⟨t, rfl⟩ (fun _ _ _ => .int i) hg hd
theorem de_gstr {x z : Str} (h : ∃ t, X.mg x = some (.str z t)) (hg : Gl X x := by rfl) (hd : (x == ("__debug__" : Str)) = false := by decide) : DE X W (.Name x pos) (eC (.str z)) := by
  obtain ⟨t, ht⟩ := h
  exact de_glob (v := .str z) ht ⟨t, rfl⟩ (fun _ _ _ => .str z) hg hd
def GTup (K : PySem.W.Frag) (mg : Str → Option Value) (x : Str) (ds : List D) : Prop := ∃ (a : Addr) (xs : List V), mg x = some (.ref a) ∧ WrT K a xs ∧ ∀ A B H, Reps K A B H xs ds
theorem de_gtup {x : Str} {ds : List D} (h : GTup X.K X.mg x ds) (hg : Gl X x := by rfl) (hd : (x == ("__debug__" : Str)) = false := by decide) : DE X W (.Name x pos) (eC (.tup ds)) := by
  obtain ⟨a, xs, h1, h2, h3⟩ := h
  exact de_glob (v := .ref a) h1 rfl (fun A B H => .tup (.inr h2) (h3 A B H)) hg hd
/-- xs + ys: lists that are tracked -/
def rLo (K : PySem.W.Frag) : Rl V (List D) := fun A B H v ds => ∃ (a : Addr) (xs : List V), v = .ref a ∧ H a = some (.lst xs) ∧ Reps K A B H xs ds
abbrev DLo (X : Cx) (W : WX) (e : Expr) (f : Ms → Res (List D)) : Prop := PE X e (tG X.K X.mg W (rLo X.K) f)
def loV (d : D) (m : Ms) : Option (List D) := match d with
  | .lst ds => some ds
  | .loc n => (match m.S[n]? with
    | some (.lst ds) => some ds
    | none => none)
  | _ => none
def qLo (f : Ms → Res D) (m : Ms) : Res (List D) := (f m).bind fun d m1 => match loV d m1 with
  | some ds => .ok ds m1
  | none => .stuck
theorem lo_at {Z A : List Addr} {O : Ow} {H : Hp} {σ : L2.St} {m : Ms} {d : D} {v : V} {K : PySem.W.Frag} {ds : List D} (s : RS K Z A O H σ m) (r : rW K A (bad A O Z) H v d) (e : loV d m = some ds) : rLo K A (bad A O Z) H v ds := by
  rcases r with r | ⟨es, a, xs, rfl, rfl, ex, rx⟩
  · cases r with
    | @lst a xs es h1 h2 => cases e; exact ⟨a, xs, rfl, h1.1, h2⟩
    | @loc a n h1 =>
      simp only [loV] at e
      cases y : m.S[n]? with
      | none => rw [y] at e; cases e
      | some o =>
        rw [y] at e
        cases o with
        | lst es =>
          cases e
          obtain ⟨b, eb, xs, ex, rx⟩ := s.sim.obj n _ y
          rw [h1] at eb
          cases eb
          exact ⟨a, xs, rfl, ex, rx⟩
    | _ => cases e
  · cases e
    exact ⟨a, xs, rfl, ex, rx⟩
theorem dlo_of (h : DB X W e f) : DLo X W e (qLo f) := PE.imp h fun σ H Q ⟨Z, A, O, m, s, q⟩ => ⟨Z, A, O, m, s, RP.bind q fun v d m1 A1 O1 H1 ev s1 r q1 => by
  cases e : loV d m1 with
  | none => rw [e] at q1; exact q1.elim
  | some ds => rw [e] at q1; exact q1.ret s1 (lo_at s1 r e)⟩
theorem dlo_new (h : DN X W e fq) : DLo X W e fq := by
  refine PE.imp h fun σ H Q ⟨Z, A, O, m, s, q⟩ => ⟨Z, A, O, m, s, ?_⟩
  cases y : fq m with
  | ok ds m1 =>
    rw [y] at q
    exact fun xs A1 O1 H1 ev s1 r p hp => q _ A1 O1 _ (ev.trans (.new hp)) (s1.new hp) ⟨p, xs, rfl, upd_same, r.carry (.grow (fun _ h => .inl h) (upd_grow hp))⟩
  | exc x m' => rw [y] at q; exact q
  | stuck => rw [y] at q; exact q
def cat2 (xs ys : List D) (m : Ms) : Res (List D) := if xs.length + ys.length ≤ 16777216 then .ok (xs ++ ys) m else .stuck
theorem cat_ok {Z A : List Addr} {O : Ow} {H : Hp} {σ : L2.St} {m : Ms} {xs ys : List D} {v w : V} {Q : VK} (s : RS X.K Z A O H σ m) (r1 : rLo X.K A (bad A O Z) H v xs) (r2 : rLo X.K A (bad A O Z) H w ys)
    (q : RP X.K X.mg W (rDs X.K) Z σ A O H (fun xs H' => ∀ p, H' p = none → Q (.ref p) (upd H' p (.lst xs))) (cat2 xs ys m)) : rCat v w H Q := by
  obtain ⟨a, us, rfl, h1, g1⟩ := r1
  obtain ⟨b, ws, rfl, h2, g2⟩ := r2
  by_cases hz : xs.length + ys.length ≤ 16777216
  · simp only [cat2, if_pos hz] at q
    exact ⟨a, b, us, ws, rfl, rfl, h1, h2, by rw [g1.len, g2.len]; exact lim_le hz, q.ret s (g1.app g2)⟩
  · simp only [cat2, if_neg hz] at q
    exact q.elim
/-- x + ys, x a name -/
def nCatV (i : Nat) (fy : Ms → Res (List D)) (m : Ms) : Res (List D) := match m.r[i]? with
  | none => .stuck
  | some .un => .stuck
  | some _ => (fy m).bind fun ys m1 => match m1.r[i]? with
    | some (.val d) => (match loV d m1 with
      | some xs => cat2 xs ys m1
      | none => .stuck)
    | some (.own xs) => cat2 xs ys m1
    | _ => .stuck
theorem dn_catV (i : Nat) {x : Str} (hb : DLo X W b fq) (hN : X.N[i]? = some x := by rfl) (hv : Vis X.env.scope x := by first | exact Or.inl rfl | exact Or.inr (Or.inl rfl) | exact Or.inr (Or.inr rfl)) (hd : (x == ("__debug__" : Str)) = false := by decide)
    (hcd : (x == ("__classdict__" : Str)) = false := by decide) : DN X W (.BinOp (.Name x p) .Add b pos) (nCatV i fq) := by
  refine PE.imp (pe_op op_cat (pv i hN hv hd hcd) hb) fun σ H Q ⟨Z, A, O, m, s, q⟩ => ?_
  have main : ∀ (l : Sl) (v : V), m.r[i]? = some l → l ≠ .un → σ[i]? = some (some v) → tOp rCat (tVar i) (tG X.K X.mg W (rLo X.K) fq) σ H Q := fun l v e nl ev => by
    have q' : RP X.K X.mg W (rDs X.K) Z σ A O H (fun xs H' => ∀ p, H' p = none → Q (.ref p) (upd H' p (.lst xs))) ((fq m).bind fun ys m1 => match m1.r[i]? with
        | some (.val d) => (match loV d m1 with
      | some xs => cat2 xs ys m1
      | none => .stuck)
        | some (.own xs) => cat2 xs ys m1
        | _ => .stuck) := by
      simp only [nCatV, e] at q
      cases l with
      | un => exact absurd rfl nl
      | val d => exact q
      | own ds => exact q
    refine ⟨v, ev, Z, A, O, m, s, RP.bind q' fun w ys m1 A1 O1 H1 ev1 s1 r1 q1 => ?_⟩
    cases e1 : m1.r[i]? with
    | none => simp only [e1] at q1; exact q1.elim
    | some l1 =>
      obtain ⟨x', o, e2, e3, sl⟩ := s1.at e1
      rw [ev] at e2
      cases e2
      cases l1 with
      | un => simp only [e1] at q1; exact q1.elim
      | val d =>
        simp only [e1] at q1
        obtain ⟨_, v', ev', rv⟩ := sl
        cases ev'
        cases el : loV d m1 with
        | none => rw [el] at q1; exact q1.elim
        | some xs => rw [el] at q1; exact cat_ok s1 (lo_at s1 (.inl rv) el) r1 q1
      | own ds =>
        simp only [e1] at q1
        obtain ⟨p, xs, _, ev', ex, rx⟩ := sl
        cases ev'
        exact cat_ok s1 ⟨p, xs, rfl, ex, rx⟩ r1 q1
  cases e : m.r[i]? with
  | none => simp only [nCatV, e] at q; exact q.elim
  | some l =>
    obtain ⟨x', o, e2, e3, sl⟩ := s.at e
    cases l with
    | un => simp only [nCatV, e] at q; exact q.elim
    | val d => obtain ⟨_, v, rfl, _⟩ := sl; exact main _ v e (by simp) e2
    | own ds => obtain ⟨p, xs, _, rfl, _⟩ := sl; exact main _ _ e (by simp) e2
def nCat (f : Ms → Res D) (fy : Ms → Res (List D)) (m : Ms) : Res (List D) := (f m).bind fun x m1 => (fy m1).bind fun ys m2 => match loV x m2 with
  | some xs => cat2 xs ys m2
  | none => .stuck
theorem dn_cat (ha : DE X W a f) (hb : DLo X W b fq) : DN X W (.BinOp a .Add b pos) (nCat f fq) :=
  PE.imp (pe_op op_cat ha hb) fun σ H Q ⟨Z, A, O, m, s, q⟩ => ⟨Z, A, O, m, s, RP.bind q fun v x m1 A1 O1 H1 ev1 s1 r1 q1 => ⟨Z, A1, O1, m1, s1, RP.bind q1 fun w ys m2 A2 O2 H2 ev2 s2 r2 q2 => by
    cases e : loV x m2 with
    | none => rw [e] at q2; exact q2.elim
    | some xs => rw [e] at q2; exact cat_ok s2 (lo_at s2 (.inl (r1.carry ev2.carry)) e) r2 q2⟩⟩
/-- a, b = e, e2, two locals -/
def sPar (i j : Nat) (fs : Ms → Res (List D)) (m : Ms) : SR := (fs m).sb fun ds m1 => match ds with
  | [d, d'] => .next (putV j d' (putV i d m1))
  | _ => .stuck
theorem ds_par (i j : Nat) {x y : Str} {px py pt : Pos} {kt k2 pt2} (hc : X.calm = true) (hN : X.N.Nodup) (ha : DA X W [a, b] fs) (hij : i ≠ j := by decide) (hi : X.N[i]? = some x := by rfl) (hj : X.N[j]? = some y := by rfl)
    (hx : X.env.scope.names.lookup x = some .local := by rfl) (hy : X.env.scope.names.lookup y = some .local := by rfl)
    (hw : swappedStores [.Tuple [.Name x px, .Name y py] kt pt] (.Tuple [a, b] k2 pt2) X.env = pure (some [x, y]) := by rfl)
    (hs : swapsWithSole [.Tuple [.Name x px, .Name y py] kt pt] (.Tuple [a, b] k2 pt2) pos.line X.env = pure false := by rfl) :
    DS X W (.Assign [.Tuple [.Name x px, .Name y py] kt pt] (.Tuple [a, b] k2 pt2) pos) (sPar i j fs) :=
  PS.imp (ps_par hc hN hi hj hij hx hy ha hw hs) fun D σ H ⟨Z, A, O, m, s, q⟩ => ⟨Z, A, O, m, s, SPD.sb q fun vs ds m1 A1 O1 H1 ev s1 r1 q1 => by
    split at q1
    · obtain ⟨v, w, rfl, r2, r3⟩ := reps2 r1
      have s2 := s1.setVal i r2
      have s3 := s2.setVal j (r3.carry (Ev.set_none (i := i)).carry)
      exact ⟨v, w, rfl, q1 _ A1 _ H1 (Ev.set_none.trans .set_none) s3⟩
    · exact q1.elim⟩

/-- a def that is never come to -/
theorem dfn_stuck {P : Program} {w : World} {K : PySem.W.Frag} {mg : Str → Option Value} {base : Heap} {k : Nat} {f : Addr} {fd : FuncData} {ps : List Str} : DFn P w K mg base k f fd ps (fun _ _ => .stuck) :=
  ⟨fun vs H Q E h => h.1, fun A outer s H args us vs Q E hr he hb hv ⟨_, Z, A0, S, ds, _, _, q⟩ => q.elim⟩
/-! ### calls by keywords alone, in the parameters' order -/
theorem Fun.kbinds {K : PySem.W.Frag} {x qual : Str} {st : Stmt} {f : Addr} {fd : FuncData} {ps : List Str} (F : Fun K x qual st f fd)
    (h : ∀ (kV doc pm : Value) (an : Option Addr) (cdv ct : Value) (us : List Value), us.length = ps.length → bindArgs (PySem.W.fnOf x qual (defArgs st) (defBody st) (defScope st) .none kV doc pm an cdv ct) ⟨[], ps.zip us⟩ = pure (ps.zip us)) :
    ∀ (s : Shared) (us : List Value), us.length = ps.length → BindsTo s fd ⟨[], ps.zip us⟩ (ps.zip us) := by
  obtain ⟨oc, od, kV, doc, pm, an, cdv, ct, osl, rfl, lk, hcd⟩ := F.ex
  exact fun s us hl => .of_eq (h kV doc pm an cdv ct us hl)
abbrev DK (X : Cx) (W : WX) (kws : List Keyword) (f : Ms → Res (List D)) : Prop := PK X kws (tG X.K X.mg W (rDs X.K) f)
theorem PK.imp {kws : List Keyword} {t t' : TA} (h : PK X kws t) (k : ∀ σ H Q, t' σ H Q → t σ H Q) : PK X kws t' := ⟨fun pos pins s σ H Q I q => h.run pos pins s σ H Q I (k σ H Q q)⟩
theorem dk_nil : DK X W [] aNil := PK.imp pk_nil fun σ H Q ⟨Z, A, O, m, s, q⟩ => q.ret s .nil
theorem dk_cons {nm : Option Str} {kpos : Pos} {kws : List Keyword} (he : DE X W e f) (hr : DK X W kws fs) : DK X W (⟨nm, e, kpos⟩ :: kws) (aCons f fs) :=
  PK.imp (pk_cons he hr) fun σ H Q ⟨Z, A, O, m, s, q⟩ => ⟨Z, A, O, m, s, RP.bind q fun v x m1 A1 O1 H1 ev1 s1 r1 q1 => ⟨Z, A1, O1, m1, s1, RP.bind q1 fun w y m2 A2 O2 H2 ev2 s2 r2 q2 => q2.ret s2 (.cons (r1.carry ev2.carry) r2)⟩⟩
theorem de_callK {k : Nat} {f : Addr} {fd : FuncData} {ps : List Str} {F : Fn} {x : Str} {kws : List Keyword} (tk : Takes X W) (G : DFn X.prog X.w X.K X.mg X.base k f fd ps F) (hr : Room k X.A) (hm : X.mg x = some (.ref f)) (hk : PySem.W.keepIn X.K (.ref f) = true)
    (hb : ∀ (s : Shared) (us : List Value), us.length = ps.length → BindsTo s fd ⟨[], ps.zip us⟩ (ps.zip us)) (ha : DK X W kws fs) (hlen : ∀ m ds m', fs m = .ok ds m' → ds.length = ps.length) (hg : Gl X x := by rfl)
    (hall : (backToKw pos (keywordEach kws X.env)).all (·.1.isSome) = true := by rfl) (hks : (backToKw pos (keywordEach kws X.env)).filterMap (·.1) = ps := by rfl)
    (hdb : (x == ("__debug__" : Str)) = false := by decide) (hpl : ((backTo pos (starEach [] X.env)).any (·.1) || (backToKw pos (keywordEach kws X.env)).any (·.1.isNone)) = false := by rfl) :
    DE X W (.Call (.Name x p) [] kws pos) (fCall F fs) := by
  have key : ∀ (pins : List (Addr × Obj)) (σ : L2.St) (H : Hp) (s : Shared) (Q : VK) (us : List Value) (vs : List V), Inv X pins σ H s → Vals vs us → spD X.K X.mg ps.length F vs H Q (WE W σ) → wpAny (model X.prog X.w) X.A (call (.ref f) [] (ps.zip us)) (EP X pins σ Q) X.xe s := fun pins σ H s Q us vs I r h => by
    have hl : us.length = ps.length := by rw [← r.length]; exact h.1
    refine wpAny_call (codeAny_mono (G.run X.A X.stack s H ⟨[], ps.zip us⟩ us vs Q (WE W σ) hr I.env0 (hb s us hl) r h) fun r s' hq => ?_)
    cases r with
    | error e => exact passAt tk σ pins H s e s' I hq
    | ok fl =>
      cases fl with
      | ret u => exact I.after hq
      | next => exact False.elim hq
      | brk => exact False.elim hq
      | cont => exact False.elim hq
  refine ⟨fun pins s σ H Q I ⟨Z, A, O, m, rs, q⟩ => ?_⟩
  refine wpAny_Call_Name_kw (ld_glob I hg hm ?_ hdb)
  refine PySem.W.callWith_KW0 (h₀ := X.base) I.ok.mod.kin hk hall ?_ hpl
  refine thn (ha.run pos pins s σ H (fun vs H1 => spD X.K X.mg ps.length F vs H1 Q (WE W σ)) I ⟨Z, A, O, m, rs, ?_⟩) fun us s2 ⟨vs, H2, I2, r2, q2⟩ => ⟨I2.kIn, ?_⟩
  · cases ef : fs m with
    | exc y m1 => simp only [fCall, ef] at q; exact q
    | stuck => simp only [fCall, ef] at q; exact q.elim
    | ok ds m1 =>
      simp only [fCall, ef, Res.bind] at q
      intro vs A1 O1 H1 ev s1 r1
      refine ⟨by rw [r1.len]; exact hlen m ds m1 ef, own O1 ++ Z, A1, m1.S, ds, s1.toFS, r1, ?_⟩
      cases eF : F ds m1.S with
      | stuck => rw [eF] at q; exact q.elim
      | ok d S' =>
        rw [eF] at q
        exact fun v A2 H2 e2 h2 r2 => q v A2 O1 H2 (ev.trans (ev_call s1 e2)) (s1.back e2 h2) r2
      | exc y S' =>
        rw [eF] at q
        exact fun cls dd A2 H2 e2 h2 r2 => q cls dd A2 O1 H2 (ev.trans (ev_call s1 e2)) (s1.back e2 h2) r2
  · rw [hks]
    exact key pins σ H2 s2 Q us vs I2 r2 q2
end
end Wd

namespace Wd
open PySem PySem.Spec PyProof.Rows L2
/-! ### enumerate(tuple) -/
section
open PySem.AutoSeq1 (wpAny_loadPart')
set_option maxHeartbeats 4000000 in
theorem meets_enumerate_newT (l : Addr) (items : Array Value) (n : Nat) (dct : Option Addr) (sl : Array (Option Value)) :
    Meets (Builtin.«enumerate.__new__» ⟨[.type "enumerate", .ref l], []⟩) (fun _ R s => s.heap.get? l = some { cls := .type "tuple", dict := dct, data := .seq items n, slots := sl } ∧
      R (.ok (.ret (.ref (s.heap.push { cls := .type "tuple_iterator", data := .fields #[.ref l, .int 0 0] }).objs.size)))
        { s with heap := (s.heap.push { cls := .type "tuple_iterator", data := .fields #[.ref l, .int 0 0] }).push { cls := .type "enumerate", data := .fields #[.none, .bool false, .ref s.heap.objs.size, rawInt 0, .none, .none] } }) :=
  .of_wp fun prog w A R s h => by
    obtain ⟨hp, g, d, tk, os⟩ := s; obtain ⟨hl, h⟩ := h
    have hsub := sub_enumerate
    have hL : Heap.IsTuple (Shared.heap ⟨hp, g, d, tk, os⟩) l items := ⟨_, hl, rfl, n, rfl⟩
    wp_walk using wpAny_loadPart' hl
    refine wpAny_stack_any fun st => wpAny_pure ?_
    split
    · rename_i c _ _ _ _ _
      cases (c == Value.type "enumerate")
      · wp_walk using wpAny_loadPart' hl, wpAny_pyIter_tuple hL
        exact ⟨_, rfl, h⟩
      · wp_walk using wpAny_loadPart' hl, wpAny_pyIter_tuple hL
        exact ⟨_, rfl, h⟩
    · wp_walk using wpAny_loadPart' hl, wpAny_pyIter_tuple hL
      exact ⟨_, rfl, h⟩
theorem call_enumerate_tuple {prog : Program} {w : World} {A : Around} {E : Value → Shared → Prop} {s : Shared} {l : Addr} {items : Array Value} {Q : Value → Shared → Prop} (hL : s.heap.IsTuple l items)
    (h : ∀ h', IsEnum h' (s.heap.objs.size + 1) s.heap.objs.size 0 .none → h'.IsTupleIter s.heap.objs.size l 0 → h'.objs.size = s.heap.objs.size + 2 →
      (∀ b o, s.heap.get? b = some o → h'.get? b = some o) → Q (.ref (s.heap.objs.size + 1)) { s with heap := h' }) :
    wpAny (model prog w) A (call (.type "enumerate") [.ref l]) Q E s := by
  obtain ⟨⟨c, dct, dt, sl⟩, hl, hc, n, hd⟩ := hL
  replace hc : c = .type "tuple" := hc
  replace hd : dt = .seq items n := hd
  subst hc hd
  refine callType_new F.called_enumerate (by decide) (F.typeCall_enumerate_1 _) (F.newCall_enumerate_1 _) (fun obj => F.args_object_init_2 obj _) F.entry_enumerate_new
    (meets_enumerate_newT l items n dct sl) ⟨hl, ?_⟩
  have hz : (s.heap.push { cls := .type "tuple_iterator", data := .fields #[.ref l, .int 0 0] }).objs.size = s.heap.objs.size + 1 := Heap.size_push ..
  show _ ∧ _
  rw [hz]
  have he : IsEnum ((s.heap.push { cls := .type "tuple_iterator", data := .fields #[.ref l, .int 0 0] }).push
      { cls := .type "enumerate", data := .fields #[.none, .bool false, .ref s.heap.objs.size, rawInt 0, .none, .none] }) (s.heap.objs.size + 1) s.heap.objs.size 0 .none := by
    have := Heap.get?_push_size (s.heap.push { cls := .type "tuple_iterator", data := .fields #[.ref l, .int 0 0] })
      (o := { cls := .type "enumerate", data := .fields #[.none, .bool false, .ref s.heap.objs.size, rawInt 0, .none, .none] }) rfl
    rw [hz] at this; exact this
  refine ⟨⟨_, he, rfl⟩, h _ he ⟨_, Heap.get?_push_of_some _ (Heap.get?_push_size _ rfl), rfl, rfl⟩ (by rw [Heap.size_push, hz]) fun b o x => Heap.get?_push_of_some _ (Heap.get?_push_of_some _ x)⟩
end
def IteT (K : PySem.W.Frag) (a : Addr) : It :=
  ⟨fun i H => ∃ (xs : List V) (x : V), SqT K H a xs ∧ xs[i]? = some x, fun i H v H' => ∃ T x, v = .ref T ∧ H T = none ∧ H' = upd H T (.tup [.int (i : Nat), x]) ∧ ∀ xs, SqT K H a xs → xs[i]? = some x, fun i H => ∃ xs : List V, SqT K H a xs ∧ xs.length ≤ i⟩
theorem turn_enumT {P : Program} {w : World} {K : PySem.W.Frag} {elts : List Expr} {kk : Nat} {tpos : Pos} (a e it : Addr) (hne0 : a ≠ it) (hea : e ≠ a) :
    Turn P w K (.Tuple elts kk tpos) (IteT K a) [e, it] e (fun i h => (∃ old, IsEnum h e it ((i : Nat) : Int) old) ∧ h.IsTupleIter it a i ∧ e ≠ it) where
  mem := by simp
  obj := fun i h st b hb => by
    obtain ⟨⟨old, he⟩, ⟨o, ho, hc, hd⟩, _⟩ := st
    have e' : b = e ∨ b = it := by simpa using hb
    rcases e' with z | z
    · rw [z]; exact ⟨_, he, fun v q => nomatch q⟩
    · rw [z]; exact ⟨o, ho, fun v q => by rw [hd] at q; cases q⟩
  keep := fun i h h' st k => let ⟨⟨old, he⟩, hi, hne⟩ := st; ⟨⟨old, k e (by simp) _ he⟩, hi.at fun o q => k it (by simp) o q, hne⟩
  item := by
    intro X hP hw hK hc i pins s σ H E I hf st hg
    subst hP hw hK
    obtain ⟨⟨old, he⟩, hit, hne⟩ := st
    obtain ⟨xs, x, hq, hx⟩ := hg
    obtain ⟨its, rv, p, hz⟩ := I.tuple hq
    obtain ⟨u, hu, ru⟩ := rv.get hx
    have hel : e < s.heap.objs.size := Heap.lt_size he
    have hil : it < s.heap.objs.size := by obtain ⟨_, q, _⟩ := hit; exact Heap.lt_size q
    have hix : i < its.toArray.size := by
      have := (List.getElem?_eq_some_iff.mp hx).1
      have hl := rv.length
      simp
      omega
    refine wpAny_pyNext_enum_itemD (PySem.Draws.tuple (A := X.A.in1) (show X.A.in1.handled = none from I.ok.hd hc) it a hne0 its.toArray) he ⟨hit, p⟩ hix hne (by simp; exact ⟨hne, hea⟩) fun y h' tk hy ho hit' hT hsz hk => ?_
    have ey : y = u := by
      have : its.toArray[i]? = some u := by simpa using hu
      rw [this] at hy
      exact (Option.some.inj hy).symm
    subst ey
    refine ⟨_, rfl, wpAny_letOwnedTupleGo_enum (s := { s with heap := h', toks := tk + 1 }) ho fun h'' he' sb => ?_⟩
    have hT2 : h''.get? s.heap.objs.size = some { cls := .type "tuple", data := .seq #[.int i tk, y] } := (sb.2 _ (Nat.ne_of_gt hel)).trans hT
    have new : ObjOk X.prog X.w (upd H s.heap.objs.size (.tup [.int (i : Nat), x])) h'' s.heap.objs.size (.tup [.int (i : Nat), x]) :=
      ⟨by show 2 ≤ sizeLine; decide, [.int i tk, y], .cons ⟨_, rfl⟩ (.cons ru .nil), ⟨_, hT2, rfl, _, rfl⟩⟩
    have I1 : Inv X pins σ (upd H s.heap.objs.size (.tup [.int (i : Nat), x])) { s with heap := h'', toks := tk + 1 } :=
      I.turnedNew (ch := [e, it]) (fun b ob hb q => (sb.2 b (fun z => hb (by simp [z]))).trans (hk b ob (fun z => hb (by simp [z])) (fun z => hb (by simp [z])) q)) hf (Nat.le_refl _) new
    refine ⟨.ref s.heap.objs.size, _, I1, rfl, ⟨_, x, rfl, I.hok.fresh (Nat.le_refl _), rfl, fun ys hy => by rw [I.tuple_inj hy hq]; exact hx⟩, ⟨⟨y, ?_⟩, hit'.1.at fun o q => (sb.2 it (Ne.symm hne)).trans q, hne⟩, fun b hb => ?_⟩
    · have e1 : ((i + 1 : Nat) : Int) = (i : Int) + 1 := by omega
      rw [e1]; exact he'
    · have hb' : b < s.heap.objs.size := by
        have e' : b = e ∨ b = it := by simpa using hb
        rcases e' with z | z
        · rw [z]; exact hel
        · rw [z]; exact hil
      rw [upd_ne (Nat.ne_of_lt hb')]
      exact (hf b hb).1
  done := by
    intro X hP hw hK hc i pins s σ H E I hf st hg
    subst hP hw hK
    obtain ⟨⟨old, he⟩, hit, hne⟩ := st
    obtain ⟨xs, hq, hx⟩ := hg
    obtain ⟨its, rv, p, hz⟩ := I.tuple hq
    obtain ⟨f0, f1, f2, f3, f4, f5⟩ := hf it (by simp)
    have hl := rv.length
    have hT : s.TypeIs (.ref e) "enumerate" := ⟨_, he, rfl⟩
    unfold pyNext
    refine wpAny_bind (wpAny_attempt (wpAny_callSpecial?_slot (name := Str.ofString "__next__") hT F.slot_enumerate_next
      (wpAny_call_entry F.slot_enumerate_next hT F.entry_enumerate_next ?_ (F.args_enumerate_next_1 _))))
    show wpAny _ _ (field (.ref e) 2 >>= _) _ _ _
    refine wpAny_bind (wpAny_field he rfl (x := .ref it) rfl ?_)
    refine wpAny_bind (PySem.wpAny_nextOf_tuple_end (I.ok.hd hc) hit p (by simp; omega) fun h' x eb hx' => ?_)
    obtain ⟨o, ho, hcl⟩ := hx'
    refine wpAny_bind (wpAny_isInstance (T := "StopIteration") (b := true) ⟨o, ho, hcl⟩ isSubtype_stop ?_)
    exact wpAny_pure ⟨rfl, I.turned (t' := s.toks) (fun b o hb q => eb b o hb q) f0 f1 f3 f4 f5⟩
  self := fun A i s Q E st h => let ⟨⟨_, he⟩, _⟩ := st; wpAny_pyIter_enum he h
/-! ### enumerate over data -/
def iEnumA (K : PySem.W.Frag) (ta : TA) : TI := fun σ H R => ta σ H fun vs H1 => ∃ a xs, vs = [.ref a] ∧ ((SqL K H1 a xs ∧ R (Ite K a) H1) ∨ (SqT K H1 a xs ∧ R (IteT K a) H1))
theorem pi_enumA {X : Cx} {e : Expr} {ta : TA} {p pos tpos : Pos} {elts : List Expr} {kk : Nat} (hg : Gl X "enumerate") (hm : X.mg "enumerate" = none) (ha : PA X [e] ta) (hs : starEach [e] X.env = [(false, eval e X.env)] := by rfl) :
    PI X (.Tuple elts kk tpos) (.Call (.Name "enumerate" p) [e] [] pos) (iEnumA X.K ta) := by
  refine ⟨fun pins s σ H R I h => ?_⟩
  refine Call_ (ld_blt I hg hm boot_enumerate (PyProof.Rows.callWith_type1 (thn (ha.run pos pins s σ H _ I h) fun us s1 ⟨vs, H1, I1, r1, q1⟩ => ?_) hs rfl))
  obtain ⟨a, xs, ex, q⟩ := q1
  subst ex
  cases r1 with
  | cons r rr =>
    cases rr
    cases r
    have lt : ∀ b, b ∈ [s1.heap.objs.size + 1, s1.heap.objs.size] → s1.heap.objs.size ≤ b := fun b hb => by
      have e' : b = s1.heap.objs.size + 1 ∨ b = s1.heap.objs.size := by simpa using hb
      rcases e' with z | z
      · rw [z]; exact Nat.le_add_right _ _
      · rw [z]; exact Nat.le_refl _
    rcases q with ⟨hq, q⟩ | ⟨hq, q⟩
    · obtain ⟨its, rv, p', hz⟩ := I1.list hq
      refine call_enumerate_list p'.isList fun h' he hit hsz hk => wpAny_pyIter_enum he ?_
      exact ⟨s1.heap.objs.size + 1, [s1.heap.objs.size + 1, s1.heap.objs.size], _, _, H1, rfl, I1.kept (t' := s1.toks) hk, turn_enum a (s1.heap.objs.size + 1) s1.heap.objs.size, ⟨⟨.none, he⟩, hit, Nat.succ_ne_self _⟩, fun b hb => I1.fpOk (lt b hb) (I1.hok.fresh (lt b hb)), q⟩
    · obtain ⟨its, rv, p', hz⟩ := I1.tuple hq
      have la : a < s1.heap.objs.size := by
        obtain ⟨o, ho, _⟩ := p'
        exact Heap.lt_size ho
      refine call_enumerate_tuple (show s1.heap.IsTuple a its.toArray from p') fun h' he hit hsz hk => wpAny_pyIter_enum he ?_
      exact ⟨s1.heap.objs.size + 1, [s1.heap.objs.size + 1, s1.heap.objs.size], _, _, H1, rfl, I1.kept (t' := s1.toks) hk, turn_enumT a (s1.heap.objs.size + 1) s1.heap.objs.size (Nat.ne_of_lt la) (Ne.symm (Nat.ne_of_lt (Nat.lt_succ_of_lt la))),
        ⟨⟨.none, he⟩, hit, Nat.succ_ne_self _⟩, fun b hb => I1.fpOk (lt b hb) (I1.hok.fresh (lt b hb)), q⟩
def enL : Nat → List D → List D
  | _, [] => []
  | n, d :: ds => .tup [.int n, d] :: enL (n + 1) ds
@[simp] theorem enL_nil {n : Nat} : enL n [] = [] := rfl
@[simp] theorem enL_cons {n : Nat} {d : D} {ds : List D} : enL n (d :: ds) = .tup [.int n, d] :: enL (n + 1) ds := rfl
@[simp] theorem enL_length {n : Nat} {ds : List D} : (enL n ds).length = ds.length := by
  induction ds generalizing n with
  | nil => rfl
  | cons d ds ih => simp [ih]
theorem enL_get {n i : Nat} {ds : List D} : (enL n ds)[i]? = (ds[i]?).map fun d => .tup [.int ((n + i : Nat) : Int), d] := by
  induction ds generalizing n i with
  | nil => simp
  | cons d ds ih =>
    cases i with
    | zero => simp
    | succ i => simp only [enL_cons, List.getElem?_cons_succ]; rw [ih]; congr 1; funext x; congr 4; omega
def itSq (d : D) (m : Ms) : Res (List D) := match d with
  | .tup ds => .ok ds m
  | .lst ds => .ok ds m
  | .ro ds => .ok ds m
  | _ => .stuck
def enE (f : Ms → Res D) (m : Ms) : Res (List D) := (f m).bind fun d m1 => (itSq d m1).bind fun ds m2 => .ok (enL 0 ds) m2
/-- what an item of a walk over pairs stands for -/
theorem pair_rep {K : PySem.W.Frag} {A B : List Addr} {H : Hp} {T : Addr} {v w : V} {d e : D} (hT : H T = none) (hB : ∀ a, a ∈ B → H a ≠ none) (r1 : Rep K A B H v d) (r2 : Rep K A B H w e) : Rep K A B (upd H T (.tup [v, w])) (.ref T) (.tup [d, e]) := by
  have c : Carry A A B B H (upd H T (.tup [v, w])) := ⟨fun _ _ e => e, fun a o _ e => by rw [upd_ne (fun z => by rw [z, hT] at e; cases e)]; exact e, fun _ z => .inl z⟩
  exact .tup (.inl ⟨upd_same, fun z => hB T z hT⟩) (.cons (r1.carry c) (.cons (r2.carry c) .nil))
theorem di_enum {X : Cx} {W : WX} {e : Expr} {f : Ms → Res D} {p pos tpos : Pos} {elts : List Expr} {kk : Nat} (hm : X.mg "enumerate" = none) (he : DE X W e f) (hg : Gl X "enumerate" := by rfl) (hs : starEach [e] X.env = [(false, eval e X.env)] := by rfl) :
    DI X W (.Tuple elts kk tpos) (.Call (.Name "enumerate" p) [e] [] pos) (enE f) := by
  refine PI.imp (pi_enumA hg hm (da_cons he da_nil hs) hs) fun σ H R ⟨Z, A, O, m, s, q⟩ => ⟨Z, A, O, m, s, ?_⟩
  have q0 : RP X.K X.mg W (rJ X.K) Z σ A O H R ((f m).bind fun d m1 => (itSq d m1).bind fun ds m2 => .ok (enL 0 ds) m2) := q
  show RP X.K X.mg W (rDs X.K) Z σ A O H _ ((f m).bind fun d m1 => (aNil m1).bind fun ds m2 => .ok (d :: ds) m2)
  cases ef : f m with
  | exc y m1 => rw [ef] at q0; exact q0
  | stuck => rw [ef] at q0; exact q0.elim
  | ok d m1 =>
    rw [ef] at q0
    simp only [Res.bind] at q0
    intro vs A1 O1 H1 ev s1 r1
    obtain ⟨v, rfl, rv⟩ := reps1 r1
    have q1 := q0.ev ev
    have lst : ∀ a xs ds, (∀ A' B' H', Carry A1 A' (bad A1 O1 Z) B' H1 H' → SqL X.K H' a xs ∧ Reps X.K A' B' H' xs ds) → RP X.K X.mg W (rJ X.K) Z σ A1 O1 H1 R (.ok (enL 0 ds) m1) → SqL X.K H1 a xs ∧ R (Ite X.K a) H1 := fun a xs ds st q2 => by
      obtain ⟨h1, h2⟩ := st A1 _ H1 ⟨fun _ _ e => e, fun _ _ _ e => e, fun _ z => .inl z⟩
      refine ⟨h1, q2.ret s1 fun A' B' H' c hB => ?_⟩
      obtain ⟨g1, g2⟩ := st A' B' H' c
      refine ⟨fun i hi => ⟨xs, xs[i]'(by rw [g2.len]; simpa using hi), g1, List.getElem?_eq_getElem _⟩, ⟨xs, g1, by rw [g2.len]; simp⟩, fun i x H2 hi ⟨T, y, ex, hT, eH, ey⟩ => ?_⟩
      subst ex eH
      obtain ⟨d, hd, rd⟩ := g2.getV (ey xs g1)
      exact ⟨.inr ⟨T, _, hT, rfl⟩, .tup [.int (i : Nat), d], by rw [enL_get, hd]; simp, pair_rep hT hB (.int _) rd⟩
    cases rv with
    | @tup a xs ds h1 h2 =>
      refine ⟨a, xs, rfl, .inr ⟨h1.sq, q1.ret s1 fun A' B' H' c hB => ?_⟩⟩
      have g1 := (h1.carry c).sq
      have g2 := h2.carry c
      refine ⟨fun i hi => ⟨xs, xs[i]'(by rw [g2.len]; simpa using hi), g1, List.getElem?_eq_getElem _⟩, ⟨xs, g1, by rw [g2.len]; simp⟩, fun i x H2 hi ⟨T, y, ex, hT, eH, ey⟩ => ?_⟩
      subst ex eH
      obtain ⟨d, hd, rd⟩ := g2.getV (ey xs g1)
      exact ⟨.inr ⟨T, _, hT, rfl⟩, .tup [.int (i : Nat), d], by rw [enL_get, hd]; simp, pair_rep hT hB (.int _) rd⟩
    | @lst a xs ds h1 h2 => exact ⟨a, xs, rfl, .inl (lst a xs ds (fun A' B' H' c => ⟨(h1.carry c).sq, h2.carry c⟩) q1)⟩
    | @ro a xs ds h1 h2 => exact ⟨a, xs, rfl, .inl (lst a xs ds (fun A' B' H' c => ⟨(h1.carry c).sq, h2.carry c⟩) q1)⟩
    | _ => exact q1.elim
end Wd

/-! Errors of the program's own classes: one field, set by __init__; raised; caught by except .. as. -/
namespace Wd
open PySem PySem.Spec PyProof.Rows L2
abbrev exMro : List Value := [.type "Exception", .type "BaseException", .type "object"]
section
open PySem.W PySem.Calls PySem.HandSPX Builtin.ObjectAttr
variable {prog : Program} {w : World} {A : Around} {E : Value → Shared → Prop} {R : Result → Shared → Prop} {hp : Heap} {g : Array GenState} {d : Drawn} {t : Nat} {os : OsState}
/-- self.fl = v, where the new error has no dict yet -/
theorem exn_set {K : PySem.W.Frag} {fl : Str} {tk : Tok} {v : Value} {x C : Addr} {fv : Array Value} (X : K.In hp) (hx : hp.get? x = some { cls := .ref C, data := .fields fv }) (hov : excOver K C exMro = true) (hdi : PySem.W.hasDictIn K C = true) (hno : takerIn K C fl = some none)
    (hq : ∀ h' tk' dx, (∀ b o, b ≠ x → hp.get? b = some o → h'.get? b = some o) → hp.objs.size ≤ dx → dx ≠ x → h'.get? x = some { cls := .ref C, dict := some dx, data := .fields fv } → h'.Ns1 dx (fun y => if y = fl then some v else none) → R (.ok (.ret .none)) ⟨h', g, d, tk', os⟩) :
    codeAny (model prog w) A (.call (.builtin "object.__setattr__") ⟨[.ref x, .str fl tk, v], []⟩) R ⟨hp, g, d, t, os⟩ := by
  have I : InstAt hp x { cls := .ref C, data := .fields fv } C none := ⟨hx, rfl, rfl, trivial⟩
  have far : x ≠ hp.objs.size := fun z => absurd (Heap.lt_size hx) (by rw [z]; exact Nat.lt_irrefl _)
  refine osa_openX F.store_Exception X I hov hno fun b => ?_
  obtain ⟨cd, hcd, hhd⟩ : ∃ cd, clsIn K C = some cd ∧ cd.hasDict = true := by
    unfold PySem.W.hasDictIn at hdi
    cases e : clsIn K C with
    | none => rw [e] at hdi; cases hdi
    | some cd => rw [e] at hdi; exact ⟨cd, rfl, hdi⟩
  have hcls : Looks (model prog w) hp (classData C) cd := looks_clsIn X hcd
  obtain ⟨nm, bs, mro, ns, qn, hd, sn, sb, ab, col, del⟩ := cd
  dsimp only at hhd
  subst hhd
  show wpAny _ _ (Builtin.ObjectAttr.storeInOwnDict _ _ _ _ _ _) _ _ _
  unfold Builtin.ObjectAttr.storeInOwnDict Builtin.ObjectAttr.ownDictForStores
  repeat (first | with_reducible refine store_in_new ?_ ?_ | with_reducible refine wpAny_loadPart_at hx ?_ | with_reducible refine hcls.at ?_ | wp_step)
  · exact ⟨_, #[], _, (Heap.get?_update_ne _ _ _ _ far.symm).trans (Heap.get?_push_at rfl rfl), rfl, fun e he => absurd he (by simp), fun _ => rfl⟩
  · intro h2 tk2 hn2 sb2
    have at1 : (hp.push { cls := .type "dict", data := .dict #[] }).get? x = some { cls := .ref C, data := .fields fv } := Heap.get?_push_of_some _ hx
    refine hq h2 tk2 hp.objs.size (fun b o hb ho => ?_) (Nat.le_refl _) far.symm ?_ hn2
    · have hbs : b ≠ hp.objs.size := Nat.ne_of_lt (Heap.lt_size ho)
      rw [sb2.2 b hbs, Heap.get?_update_ne _ _ _ _ hb]
      exact Heap.get?_push_of_some _ ho
    · rw [sb2.2 x far]
      exact Heap.get?_update_self _ at1 rfl
end
/-! the text of such a class's __init__ -/
def iniA (fl : Str) (p1 p2 : Pos) : Arguments := { posonlyargs := [], args := [{ arg := "self", annotation := none, pos := p1 }, { arg := fl, annotation := none, pos := p2 }], vararg := none, kwonlyargs := [], kw_defaults := [], kwarg := none, defaults := [] }
def iniB (fl : Str) (q1 q2 q3 q4 : Pos) : List Stmt := [.Assign [.Attribute (.Name "self" q1) fl q2] (.Name fl q3) q4]
def iniS (fl : Str) : Scope := { kind := .function, names := [("self", .local), (fl, .local)], isGenerator := false, isCoroutine := false, more := [] }
open PySem.W PySem.Calls PySem.HandSPX in
/-- a field's name for which __init__ binds and finds its two names -/
structure GoodFl (fl : Str) : Prop where
  nd : (fl == ("__debug__" : Str)) = false
  bind : ∀ (qual : Str) (kV doc pm : Value) (an : Option Addr) (cdv ct : Value) (p1 p2 q1 q2 q3 q4 : Pos) (x v : Value), bindArgs (PySem.W.fnOf "__init__" qual (iniA fl p1 p2) (iniB fl q1 q2 q3 q4) (iniS fl) .none kV doc pm an cdv ct) ⟨[x, v], []⟩ = pure ([("self", x), (fl, v)] : List (Str × Value))
  loc : ∀ (x v : Value), (([("self", x), (fl, v)] : List (Str × Value)).all fun y => List.lookup y.1 (iniS fl).names == some NameKind.local || List.lookup y.1 (iniS fl).names == some NameKind.cell) = true
  k1 : ∀ (nm : Str) (L a : Addr) (cv : Value), (envOfC nm (iniS fl) L a cv).kindOf "self" = some .local
  k2 : ∀ (nm : Str) (L a : Addr) (cv : Value), (envOfC nm (iniS fl) L a cv).kindOf fl = some .local
  l1 : ∀ (nm : Str) (L a : Addr) (cv x v : Value), bindL (envOfC nm (iniS fl) L a cv).kindOf ([("self", x), (fl, v)] : List (Str × Value)) (fun _ => none) "self" = some x
  l2 : ∀ (nm : Str) (L a : Addr) (cv x v : Value), bindL (envOfC nm (iniS fl) L a cv).kindOf ([("self", x), (fl, v)] : List (Str × Value)) (fun _ => none) fl = some v
theorem good_at : GoodFl "at" := ⟨by decide, fun _ _ _ _ _ _ _ _ _ _ _ _ _ _ _ => rfl, fun _ _ => rfl, fun _ _ _ _ => rfl, fun _ _ _ _ => rfl, fun _ _ _ _ _ _ => rfl, fun _ _ _ _ _ _ => rfl⟩
theorem good_place : GoodFl "place" := ⟨by decide, fun _ _ _ _ _ _ _ _ _ _ _ _ _ _ _ => rfl, fun _ _ => rfl, fun _ _ _ _ => rfl, fun _ _ _ _ => rfl, fun _ _ _ _ _ _ => rfl, fun _ _ _ _ _ _ => rfl⟩
/-- what the top has left of the class cn, at C, and of its __init__, at fI -/
structure ExnT (K : PySem.W.Frag) (mg : Str → Option Value) (cn fl : Str) (C fI : Addr) : Prop where
  gC : mg cn = some (.ref C)
  xi : PySem.W.excInitIn K C exMro "Exception.__new__" = true
  ov : PySem.W.excOver K C exMro = true
  sa : PySem.W.findIn K (.ref C) "__setattr__" = some (some (.builtin "object.__setattr__"))
  ga : PySem.W.findIn K (.ref C) "__getattribute__" = some (some (.builtin "BaseException.__getattribute__"))
  gg : PySem.W.findIn K (.ref C) "__getattr__" = some none
  noN : PySem.W.findIn K (.ref C) fl = some none
  tk : PySem.W.takerIn K C fl = some none
  iC : PySem.W.findIn K (.ref C) "__init__" = some (some (.ref fI))
  tC : PySem.W.typeIn K (.ref fI) = some (.type "function")
  kC : PySem.W.keepIn K (.ref C) = true
  exC : PySem.W.subIn K (.ref C) (.type "BaseException") = some true
  tyC : PySem.W.typeIn K (.ref C) = some (.type "type")
  hdC : PySem.W.hasDictIn K C = true
  gf : GoodFl fl
  fn : ∃ (oc : Value) (od : Option Addr) (qual : Str) (kV doc pm : Value) (an : Option Addr) (cdv ct : Value) (osl : Array (Option Value)) (p1 p2 q1 q2 q3 q4 : Pos),
    K.lookup fI = some ⟨oc, od, .func (PySem.W.fnOf "__init__" qual (iniA fl p1 p2) (iniB fl q1 q2 q3 q4) (iniS fl) .none kV doc pm an cdv ct), osl⟩ ∧ PySem.W.codeIn K cdv qual = true
/-- a name that is a def's local, looked up -/
theorem ld_own {M : Model} {s : Shared} {name : Str} {scope : Scope} {L a : Addr} {cd : Value} {mm : Str → Option Value} {x : Str} {pos : Pos} {v : Value} {Q : Value → Shared → Prop} {A : Around} {E : Value → Shared → Prop} (hn : s.heap.Ns L mm) (hv : mm x = some v) (h : Q v s)
    (hk : scope.kind = .function) (hl : (envOfC name scope L a cd).kindOf x = some .local) (hd : (x == ("__debug__" : Str)) = false) : wpAny M A (eval (.Name x pos) (envOfC name scope L a cd)) Q E s :=
  wpAny_Name (wpAny_loadName_local hk hl hn hv h) hd
/-- behind __init__: the new error has a dict of its own with the field -/
structure ExnInit (h h' : Heap) (x C dx t1 : Addr) (fl : Str) (v : Value) : Prop where
  keep : ∀ b o, b ≠ x → h.get? b = some o → h'.get? b = some o
  obj : h'.get? x = some { cls := .ref C, dict := some dx, data := .fields #[.ref t1, .none, .none, .none, .bool false, .none] }
  dbig : h.objs.size ≤ dx
  dne : dx ≠ x
  ns : h'.Ns1 dx (fun y => if y = fl then some v else none)
/-- an error that is made -/
structure ExnMade (h h' : Heap) (e C d : Addr) (fl : Str) (v : Value) : Prop where
  keep : ∀ b o, h.get? b = some o → h'.get? b = some o
  new : h.objs.size ≤ e
  obj : ∃ oe vs, h'.get? e = some oe ∧ oe.cls = .ref C ∧ oe.dict = some d ∧ oe.data = .fields vs ∧ vs[1]? = some .none
  dbig : h.objs.size ≤ d
  dne : d ≠ e
  ns : h'.Ns1 d (fun y => if y = fl then some v else none)
section
open PySem.W PySem.Calls PySem.HandSPX
variable {prog : Program} {w : World} {A : Around} {E : Value → Shared → Prop} {R : Result → Shared → Prop} {s : Shared} {K : PySem.W.Frag} {mg : Str → Option Value} {cn fl : Str} {C fI : Addr}
theorem exn_init (T : ExnT K mg cn fl C fI) {x t0 : Addr} {v : Value} (X : K.In s.heap) (hlim : s.heap.NoLimit) (hx : s.heap.get? x = some (excO C t0)) (hroom : A.depth < recursionLimit)
    (hq : ∀ h' tk dx, ExnInit s.heap h' x C dx t0 fl v → R (.ok (.ret .none)) { s with heap := h', toks := tk }) :
    codeAny (model prog w) A (.call (.ref fI) ⟨[.ref x, v], []⟩) R s := by
  obtain ⟨oc, od, qual, kV, doc, pm, an, cdv, ct, osl, p1, p2, q1, q2, q3, q4, ho, hcd⟩ := T.fn
  refine Att.call_fn (binds := [("self", .ref x), (fl, v)]) X hlim ho hcd hroom (BindsTo.of_eq (T.gf.bind _ _ _ _ _ _ _ _ _ _ _ _ _ _ _)) (T.gf.loc _ _) (fun s1 IC => ?_) rfl rfl rfl
  obtain ⟨h1, tk1, rfl⟩ := IC.toInCall.same
  have old : ∀ b o, s.heap.get? b = some o → h1.get? b = some o := IC.toInCall.keep
  have X1 : K.In h1 := X.keeps old
  show wpAny _ _ (execs _ _) _ _ _
  refine wpAny_execs_cons (plainObj_wpAny_Assign_Attribute ?_)
  refine ld_own (v := v) IC.toInCall.ns (T.gf.l2 _ _ _ _ _ _) (ld_own (v := .ref x) IC.toInCall.ns (T.gf.l1 _ _ _ _ _ _) ?_ rfl (T.gf.k1 _ _ _ _) (by decide)) rfl (T.gf.k2 _ _ _ _) T.gf.nd
  refine set_plain X1 (ox := excO C t0) (od := none) ⟨old _ _ hx, rfl, rfl, trivial⟩ T.sa ?_
  refine exn_set X1 (old _ _ hx) T.ov T.hdC T.tk fun h3 tk3 dx k3 dn dne hx3 hn3 => ?_
  show wpAny _ _ (execs _ _) _ _ _
  have z : s.heap.objs.size < h1.objs.size := IC.toInCall.ns.lt
  exact wpAny_execs_nil (hq h3 tk3 dx ⟨fun b o hb e => k3 b o hb (old b o e), hx3, Nat.le_of_lt (Nat.lt_of_lt_of_le z dn), dne, hn3⟩)
theorem exn_made (T : ExnT K mg cn fl C fI) {v : Value} (X : K.In s.heap) (hlim : s.heap.NoLimit) (hroom : A.depth + 1 < recursionLimit)
    (hq : ∀ h' tk e d, ExnMade s.heap h' e C d fl v → R (.ok (.ret (.ref e))) { s with heap := h', toks := tk }) :
    codeAny (model prog w) A (.call (.ref C) ⟨[v], []⟩) R s := by
  obtain ⟨nm, N, qn, bs, bm, hdct, sn, sub, ab, col, dd, k0, k1, k2, k3, k5, hC, hT⟩ := excInit_of X T.xi
  obtain ⟨hp, g, dr, tk, os⟩ := s
  have k : ∀ b o, hp.get? b = some o → ((hp.push (kdv_tup [v])).push (excO C hp.objs.size)).get? b = some o := fun b o e => Heap.get?_push_of_some _ (Heap.get?_push_of_some _ e)
  have hget : ((hp.push (kdv_tup [v])).push (excO C hp.objs.size)).get? (hp.objs.size + 1) = some (excO C hp.objs.size) := by heap_get
  refine PySem.HandSPX.call_own F.excBase_Exception hT hC (looks_findIn X T.iC) (fun self => bind_fn X self T.tC) (by rw [sizeLine_eq]; simp) ?_
  refine exn_init (s := ⟨(hp.push (kdv_tup [v])).push (excO C hp.objs.size), g, dr, tk, os⟩) T (X.keeps k) (hlim.keeps k) hget ?_ fun h' tk' dx I => ?_
  · show A.depth + 1 < recursionLimit
    exact hroom
  · have z : hp.objs.size + 1 + 1 ≤ dx := by
      have q := I.dbig
      simpa only [Heap.size_push] using q
    exact ⟨rfl, hq h' tk' (hp.objs.size + 1) dx ⟨fun b o e => I.keep b o (Nat.ne_of_lt (Nat.lt_succ_of_lt (Heap.lt_size e))) (k b o e), Nat.le_succ _, ⟨_, _, I.obj, rfl, rfl, rfl, rfl⟩, Nat.le_trans (Nat.le_trans (Nat.le_succ _) (Nat.le_succ _)) z, I.dne, I.ns⟩⟩
end
/-! ### in the layer -/
theorem relO_one {fl : Str} {v : V} {u : Value} (r : RelV v u) (f : Str) : RelO (List.lookup f [(fl, v)]) (if f = fl then some u else none) := by
  by_cases e : f = fl
  · rw [if_pos e, e]
    have z : List.lookup fl [(fl, v)] = some v := by simp [List.lookup]
    rw [z]
    exact r
  · rw [if_neg e]
    have z : (f == fl) = false := by simpa using e
    have z2 : List.lookup f [(fl, v)] = none := by simp [List.lookup, z]
    rw [z2]
    trivial
section
variable {X : Cx} {W : WX} {cn fl : Str} {C fI : Addr} {f : Ms → Res D} {a : Expr}
def tMkX (C : Addr) (fl : Str) (ta : TA) : L2.St → Hp → XK → Prop := fun σ H Q => ta σ H fun vs H1 => ∃ v, vs = [v] ∧ ∀ d, H1 d = none → Q (.ref C) (some d) (upd H1 d (.xd [(fl, v)]))
theorem pmk_exn {ta : TA} {p pos : Pos} {k : Nat} (T : ExnT X.K X.mg cn fl C fI) (hr : Room k X.A) (ha : PA X [a] ta) (hg : Gl X cn) (hd : (cn == ("__debug__" : Str)) = false)
    (he : starEach (a :: []) X.env = (false, eval a X.env) :: starEach [] X.env) (hpl : (backTo pos (starEach [] X.env)).any (·.1) = false) :
    PMk X (.Call (.Name cn p) [a] [] pos) (tMkX C fl ta) := by
  intro pins s σ H Q I h
  refine wpAny_Call_Name_kw (ld_glob I hg T.gC ?_ hd)
  refine PySem.W.callWith_K (h₀ := X.base) I.ok.mod.kin T.kC (thn (ha.run pos pins s σ H _ I h) fun us s1 hh => ?_) he hpl
  obtain ⟨vs, H1, I1, r1, v, ev, q1⟩ := hh
  subst ev
  refine ⟨I1.kIn, ?_⟩
  match us, r1 with
  | [u], .cons rv .nil =>
    show wpAny _ _ (call (.ref C) [u]) _ _ _
    have hlim := I1.nolimit
    obtain ⟨hp, g, dr, tk, os⟩ := s1
    refine wpAny_call (exn_made T I1.kIn hlim (by have := hr.dp; omega) fun h' tk' e d M => ?_)
    show MkP X pins σ Q (.ref e) ⟨h', g, dr, tk', os⟩
    obtain ⟨oe, fv, hoe, hc, hdd, hdat, h1⟩ := M.obj
    -- the heap without the new error
    obtain ⟨G, g1, g2⟩ := restrict h' fun b => decide (b ≠ e)
    have ge : G.get? e = none := g2 e (by simp)
    have gk : ∀ b, b ≠ e → G.get? b = h'.get? b := fun b hb => g1 b (decide_eq_true hb)
    have old : ∀ b o, hp.get? b = some o → G.get? b = some o := fun b o q => by
      rw [gk b (Nat.ne_of_lt (Nat.lt_of_lt_of_le (Heap.lt_size q) M.new))]
      exact M.keep b o q
    have ob : ObjOk X.prog X.w (upd H1 d (.xd [(fl, v)])) G d (.xd [(fl, v)]) := ⟨_, M.ns.at fun o q => by rw [gk d M.dne]; exact q, fun f => relO_one rv f⟩
    refine ⟨e, oe, fv, ⟨G, g, dr, tk', os⟩, _, .ref C, some d, rfl, I1.laid (t' := tk') old M.dbig ob, fun b o q => ?_, ge, hoe, ⟨hc, hdd⟩, hdat, h1, ?_, rfl, I1.bare, raises_own T.exC T.tyC, q1 d (I1.hok.fresh M.dbig)⟩
    · by_cases hb : b = e
      · have q' : G.get? b = some o := q
        rw [hb, ge] at q'
        cases q'
      · rw [← gk b hb]
        exact q
    · rw [upd_ne (Ne.symm M.dne)]
      exact I1.hok.fresh M.new
def sRaise (cn fl : Str) (f : Ms → Res D) (m : Ms) : SR := (f m).sb fun d m1 => .exc ⟨cn, [(fl, d)]⟩ m1
/-- raise C(e) -/
theorem ds_raise {p pos pos2 : Pos} {k : Nat} (hc : X.calm = true) (T : ExnT X.K X.mg cn fl C fI) (hr : Room k X.A) (tk : Takes X W) (ha : DE X W a f) (hg : Gl X cn := by rfl) (hd : (cn == ("__debug__" : Str)) = false := by decide)
    (he : starEach (a :: []) X.env = (false, eval a X.env) :: starEach [] X.env := by rfl) (hpl : (backTo pos (starEach [] X.env)).any (·.1) = false := by rfl) :
    DS X W (.Raise (some (.Call (.Name cn p) [a] [] pos)) none pos2) (sRaise cn fl f) := by
  refine PS.imp (ps_raise hc tk (pmk_exn T hr (da_cons ha da_nil he) hg hd he hpl)) fun D σ H ⟨Z, A, O, m, s, q⟩ => ⟨Z, A, O, m, s, ?_⟩
  have q0 : SPD X.K X.mg W Z A O H D ((f m).sb fun d m1 => .exc ⟨cn, [(fl, d)]⟩ m1) := q
  show RP X.K X.mg W (rDs X.K) Z σ A O H _ ((f m).bind fun d m1 => (aNil m1).bind fun ds m2 => .ok (d :: ds) m2)
  cases ef : f m with
  | exc y m1 => rw [ef] at q0; exact fun cls dd A1 O1 H1 ev s1 r1 => q0 cls dd σ A1 O1 H1 ev s1 r1
  | stuck => rw [ef] at q0; exact q0.elim
  | ok d m1 =>
    rw [ef] at q0
    intro vs A1 O1 H1 ev s1 r1
    obtain ⟨v, rfl, rv⟩ := reps1 r1
    refine ⟨v, rfl, fun x hx => q0 (.ref C) (some x) σ A1 O1 _ (ev.trans (.new hx)) (s1.new hx) ?_⟩
    exact ⟨C, T.gC, rfl, .inr ⟨x, fl, v, d, rfl, rfl, upd_same, s1.notBad hx, rv.carry (Ev.new hx).carry⟩⟩
/-! ### except C as n: return (s, n.fl) | return n.fl -/
def tFldX (C : Addr) (fl : Str) (a : Addr) (cls : Value) (d : Option Addr) (te : TE) : TE := fun σ H Q => te σ H fun x H1 => x = .ref a ∧ cls = .ref C ∧ ∃ (dd : Addr) (v : V), d = some dd ∧ H1 dd = some (.xd [(fl, v)]) ∧ Q v H1
theorem pe_fldX {a : Addr} {oe : Obj} {cls : Value} {d : Option Addr} {pn : List (Addr × Obj)} {e : Expr} {te : TE} {pos : Pos} (T : ExnT X.K X.mg cn fl C fI) (hz : Zc cls d oe) (hf : ∃ vs, oe.data = .fields vs) (he : PE (X.suite a ((a, oe) :: pn)) e te)
    (hb : attributeBase e fl X.env (eval e X.env) = eval e X.env) : PE (X.suite a ((a, oe) :: pn)) (.Attribute e fl pos) (tFldX C fl a cls d te) := by
  refine ⟨fun pins s σ H Q I h => attr_of hb (thn (he.run pins s σ H _ I h) fun u s1 hh => ?_)⟩
  obtain ⟨x, H1, I1, rx, rfl, rfl, dd, v, rfl, ea, q⟩ := hh
  obtain rfl : u = Value.ref a := rx
  obtain ⟨ha, _⟩ := I1.pin (a, oe) (List.mem_append_left _ List.mem_cons_self)
  obtain ⟨vs, hvs⟩ := hf
  obtain ⟨mA, hns, hr⟩ := (show ObjOk X.prog X.w H1 s1.heap dd (.xd [(fl, v)]) from I1.hok dd _ ea)
  obtain ⟨od, ho, hl⟩ := lookIn_ns hns
  have l : List.lookup fl [(fl, v)] = some v := by simp [List.lookup]
  obtain ⟨u, hu, ru⟩ := RelO.some_of (v := v) (o := mA fl) (by rw [← l]; exact hr fl)
  have J : PySem.W.InstAt s1.heap a oe C (some od) := ⟨ha, hz.1, by unfold PySem.W.notCls; rw [hvs] <;> rfl, by rw [hz.2]; exact ho⟩
  exact HandSPX.exc_get I1.kIn J T.ga T.gg T.exC (PySem.W.findObj_own T.hdC T.noN rfl (by rw [hl, hu])) (handed_of ru) ⟨v, H1, I1.tok _, ru, q⟩
inductive HK where
  | tup (s : Str) | fld
def hK (fl : Str) (k : HK) (x : Ex) (m : Ms) : SR := match x.fs with
  | [(g, d)] => if g = fl then (match k with
    | .tup s => .ret (.tup [.str s, d]) m
    | .fld => .ret d m) else .stuck
  | _ => .stuck
/-- the clause's suite -/
inductive HSuite (n fl : Str) : HK → List Stmt → Prop
  | tup {s : Str} {j k2 : _} {p1 p2 p3 p4 p5 : Pos} : HSuite n fl (.tup s) [.Return (some (.Tuple [.Constant (.str s) j p1, .Attribute (.Name n p2) fl p3] k2 p4)) p5]
  | fld {p1 p2 p3 : Pos} : HSuite n fl .fld [.Return (some (.Attribute (.Name n p1) fl p2)) p3]
def tHX (C : Addr) (fl : Str) (i : Nat) : HK → Addr → Value → Option Addr → TS
  | .tup s, a, cls, d => tRet (tTup (tCons (tC (.str s)) (tCons (tFldX C fl a cls d (tVar i)) tNil)))
  | .fld, a, cls, d => tRet (tFldX C fl a cls d (tVar i))
/-- what the body lets out: cn's are caught, oth's are not -/
def sTryAs (cn fl : Str) (oth : List Str) (i : Nat) (k : HK) (F : Ms → SR) (m : Ms) : SR := match F m with
  | .exc x m1 => if x.c = cn then (if i < m1.r.length then hK fl k x m1 else .stuck) else if x.c ∈ oth then .exc x m1 else .stuck
  | r => r
/-- the handler's end -/
theorem hx_ok {K : PySem.W.Frag} {mg : Str → Option Value} {Z A : List Addr} {O : Ow} {H : Hp} {σ : L2.St} {m : Ms} {x : Ex} {k : HK} {i : Nat} {D : Ends} {dd : Option Addr} (gC : mg cn = some (.ref C)) (s : RS K Z A O H σ m) (hi : i < m.r.length) (hc : x.c = cn) (r : ExR K mg A (bad A O Z) H (.ref C) dd x)
    (q : SPD K mg W Z A O H D (hK fl k x m)) (a : Addr) : tHX C fl i k a (.ref C) dd { D with nx := fun σ' H' => D.nx (σ'.set i none) H', bk := fun σ' H' => D.bk (σ'.set i none) H', ct := fun σ' H' => D.ct (σ'.set i none) H' } (σ.set i (some (.ref a))) H := by
  obtain ⟨C', h1, h2, h3⟩ := r
  have hσ : (σ.set i (some (V.ref a)))[i]? = some (some (V.ref a)) := by
    rw [List.getElem?_set_self (by rw [s.slen]; exact hi)]
  rcases h3 with ⟨e1, _⟩ | ⟨d, f, v, dv, e1, e2, e3, e4, e5⟩
  · unfold hK at q
    rw [e1] at q
    exact q.elim
  · unfold hK at q
    rw [e1] at q
    by_cases hf : f = fl
    · subst hf
      simp only [if_true] at q
      subst e2
      cases k with
      | tup z =>
        refine ⟨_, hσ, rfl, rfl, d, v, rfl, e3, ?_⟩
        refine ⟨(by show 2 ≤ sizeLine; decide), fun p hp => ?_⟩
        refine q (.ref p) σ A O _ (.new hp) (s.new hp) ?_
        have rt := Rep.newTup s hp (.cons (.str z) (.cons e5 .nil))
        exact rt.carry (.less fun _ y => bad_nil y)
      | fld =>
        refine ⟨_, hσ, rfl, rfl, d, v, rfl, e3, ?_⟩
        exact q v σ A O H .refl s (e5.carry (.less fun _ y => bad_nil y))
    · simp only [if_neg hf] at q
      exact q.elim
/-- try: .. except C as n: .. -/
theorem ds_tryAs (i : Nat) {n : Str} {oth : List Str} {k : HK} {body suite : List Stmt} {b0 : Stmt} {np pos pos' : Pos} {F : Ms → SR} (hs : X.stack = X.env :: X.outer) (hf : X.env.frame = some X.env.locals) (hN : X.N.Nodup) (T : ExnT X.K X.mg cn fl C fI)
    (te : PySem.W.exmOne X.K (.ref C) (.ref C) = some true) (ho : ∀ o ∈ oth, ∀ C', X.mg o = some (.ref C') → PySem.W.exmOne X.K (.ref C') (.ref C) = some false) (tk : Takes X W)
    (hb : ∀ (W' : WX) (pn : List (Addr × Obj)) (xe : Value → Shared → Prop), Takes (X.tr pn xe) W' → PassesOwn (model X.prog X.w) X.A X.env xe → DSs (X.tr pn xe) W' body F) (hsu : HSuite n fl k (b0 :: suite))
    (hi : X.N[i]? = some n := by rfl) (hln : X.env.kindOf n = some .local := by rfl) (hg : Gl X cn := by rfl) (hd : (cn == ("__debug__" : Str)) = false := by decide) (hnd : (n == ("__debug__" : Str)) = false := by decide) (hncd : (n == ("__classdict__" : Str)) = false := by decide) (hv : Vis X.env.scope n := by first | exact Or.inl rfl | exact Or.inr (Or.inl rfl) | exact Or.inr (Or.inr rfl))
    (hab : ∀ p, attributeBase (.Name n p) fl X.env (eval (.Name n p) X.env) = eval (.Name n p) X.env := by intro _; rfl) :
    DS X W (.Try body [.ExceptHandler (some (.Name cn np)) (some n) (b0 :: suite) pos'] [] [] pos) (sTryAs cn fl oth i k F) := by
  refine PS.imp (ps_try_as (i := i) (tb := fun W' => tSt X.K X.mg W' F) (ts := tHX C fl i k) (Wout := W) hs hf hN hi hln ⟨hg, hd, .inl T.gC⟩ tk hb (fun a oe cls d pn hz hvs => ?_)) fun D σ H ⟨Z, A, O, m, s, q⟩ => ⟨Z, A, O, m, s, ?_⟩
  · cases hsu with
    | tup => exact pss_one (ps_ret (pe_tup (pa_cons pe_str (pa_cons (pe_fldX T hz hvs (pv i hi hv hnd hncd) (hab _)) pa_nil))))
    | fld => exact pss_one (ps_ret (pe_fldX T hz hvs (pv i hi hv hnd hncd) (hab _)))
  · unfold sTryAs at q
    cases eF : F m with
    | next m1 => rw [eF] at q; exact q
    | ret d m1 => rw [eF] at q; exact q
    | brk m1 => rw [eF] at q; exact q
    | cnt m1 => rw [eF] at q; exact q
    | stuck => rw [eF] at q; exact q
    | exc x m1 =>
      rw [eF] at q
      intro cls dd σ1 A1 O1 H1 ev s1 r1
      simp only at q
      by_cases hc : x.c = cn
      · rw [if_pos hc] at q
        by_cases hl : i < m1.r.length
        · rw [if_pos hl] at q
          have ec : cls = .ref C := by
            obtain ⟨C', h1, h2, _⟩ := r1
            rw [hc, T.gC] at h1
            cases h1
            exact h2
          subst ec
          exact ⟨true, te, fun _ a _ => hx_ok T.gC s1 hl hc r1 (q.ev ev) a, fun z => Bool.noConfusion z⟩
        · rw [if_neg hl] at q
          exact q.elim
      · rw [if_neg hc] at q
        by_cases hm : x.c ∈ oth
        · rw [if_pos hm] at q
          obtain ⟨C', h1, h2, h3⟩ := id r1
          refine ⟨false, ?_, fun z => Bool.noConfusion z, fun _ => q cls dd σ1 A1 O1 H1 ev s1 r1⟩
          rw [h2]
          exact ho _ hm C' h1
        · rw [if_neg hm] at q
          exact q.elim
end
end Wd

/-! try with several clauses, with names or without -/
namespace Wd
open PySem PySem.Spec PyProof.Rows L2
/-- the ends of a clause that binds the name in slot i -/
def endsBut (i : Nat) (D : Ends) : Ends where
  nx := fun ρ G => D.nx (ρ.set i none) G
  rt := D.rt
  bk := fun ρ G => D.bk (ρ.set i none) G
  ct := fun ρ G => D.ct (ρ.set i none) G
abbrev ClT := Option Nat × Value × (Addr → Value → Option Addr → TS)
def wMix (K : PySem.W.Frag) (V0 : WX) (D : Ends) : List ClT → WX
  | [] => V0
  | (none, c, t) :: more => fun cl od ρ G => ∃ b, PySem.W.exmOne K cl c = some b ∧ (b = true → ∀ p, G p = none → t p cl od D ρ G) ∧ (b = false → wMix K V0 D more cl od ρ G)
  | (some i, c, t) :: more => fun cl od ρ G => ∃ b, PySem.W.exmOne K cl c = some b ∧ (b = true → ∀ p, G p = none → t p cl od (endsBut i D) (ρ.set i (some (.ref p))) G) ∧ (b = false → wMix K V0 D more cl od ρ G)
inductive Cls (X : Cx) : List ExceptHandler → List ClT → Prop
  | nil : Cls X [] []
  | plain {x : Str} {c : Value} {t : Addr → Value → Option Addr → TS} {b0 : Stmt} {su : List Stmt} {np pp : Pos} {hs : List ExceptHandler} {l : List ClT} (nm : Names X x c)
      (run : ∀ (p : Addr) (o : Obj) (cl : Value) (od : Option Addr) (pn : List (Addr × Obj)), Zc cl od o → (∃ vs, o.data = .fields vs) → PSs (X.suite p ((p, o) :: pn)) (b0 :: su) (t p cl od)) (rest : Cls X hs l) :
      Cls X (.ExceptHandler (some (.Name x np)) none (b0 :: su) pp :: hs) ((none, c, t) :: l)
  | named {x n : Str} {i : Nat} {c : Value} {t : Addr → Value → Option Addr → TS} {b0 : Stmt} {su : List Stmt} {np pp : Pos} {hs : List ExceptHandler} {l : List ClT} (nm : Names X x c) (hi : X.N[i]? = some n) (kn : X.env.kindOf n = some .local)
      (run : ∀ (p : Addr) (o : Obj) (cl : Value) (od : Option Addr) (pn : List (Addr × Obj)), Zc cl od o → (∃ vs, o.data = .fields vs) → PSs (X.suite p ((p, o) :: pn)) (b0 :: su) (t p cl od)) (rest : Cls X hs l) :
      Cls X (.ExceptHandler (some (.Name x np)) (some n) (b0 :: su) pp :: hs) ((some i, c, t) :: l)
section
variable {X : Cx} {body : List Stmt} {h1 : ExceptHandler} {hds : List ExceptHandler} {l : List ClT} {pos : Pos} {tb : WX → TS} {V0 : WX}
theorem ps_tryMix (stk : X.stack = X.env :: X.outer) (frm : X.env.frame = some X.env.locals) (nd : X.N.Nodup) (tk : Takes X V0)
    (hb : ∀ (V : WX) (pn : List (Addr × Obj)) (xe : Value → Shared → Prop), Takes (X.tr pn xe) V → PassesOwn (model X.prog X.w) X.A X.env xe → PSs (X.tr pn xe) body (tb V))
    (hh : Cls X (h1 :: hds) l) : PS X (.Try body (h1 :: hds) [] [] pos) (fun D ρ G => tb (wMix X.K V0 D l) D ρ G) := by
  refine ⟨fun pins s ρ G D In0 wish => ?_⟩
  have okX := In0.ok
  have frs0 : X.A.frames = some (X.env :: X.outer) := by rw [okX.frames, stk]
  refine wpAny_Try_except ?_
  refine wpAny_mono ((hb (wMix X.K V0 D l) (X.pn ++ pins) (fun e s1 => wpAny (model X.prog X.w) X.A (noteFrame e X.env) (fun _ s2 => wpAny (model X.prog X.w) X.A (setFlight e none)
    (fun _ s3 => wpAny (model X.prog X.w) X.A (handleBy e X.env (h1 :: hds)) (SP X pins D) X.xe s3) X.xe s2) X.xe s1) (fun u t xx => ?_) PassesOwn.looking).run [] s ρ G D (In0.toTry _) wish) (fun fl t res => ?_) (fun e t he => he)
  · obtain ⟨p, B, sI, pins', ρ', G', cl, od, rfl, Jt, nb, up, sky, na, os, ag, wi⟩ := xx
    have Jn : Inv X pins ρ' G' sI := Jt.ofTry okX
    have sky2 : Sky B (X.env :: X.outer) p (Zc cl od) X.env.locals t.heap := by rw [← stk]; exact sky
    show wpAny (model X.prog X.w) X.A (noteFrame (.ref p) X.env) _ _ _
    refine Sky.land Zc.steady frs0 frm sky2 fun g3 f3 u3 => ?_
    have K3 : Inv X pins ρ' G' { t with heap := g3 } := Jn.landed nb f3.1 (up.trans u3) os ag
    obtain ⟨o3, v3, look3, z3, dat3⟩ := f3.there
    have apartF : ∀ {g : Heap} {o : Obj} {vs : Array Value}, g.FunFrames B (X.env :: X.outer) → g.get? p = some o → o.data = .fields vs → p ∉ frs (X.env :: X.outer) := fun {g o vs} ff e dd hm => by
      obtain ⟨_, o2, e2, hnf⟩ := ff.mem hm
      rw [e] at e2
      cases e2
      exact hnf _ dd
    have far := apartF f3.2.2.1 look3 dat3
    have nL : p ≠ X.env.locals := fun z => far (List.mem_filterMap.mpr ⟨X.env, List.mem_cons_self, z ▸ frm⟩)
    have nF : p ∉ X.fs := fun hm => by
      obtain ⟨en, hen, q⟩ := List.mem_filterMap.mp hm
      exact far (List.mem_filterMap.mpr ⟨en, List.mem_cons_of_mem _ hen, q⟩)
    have U3 := K3.suite look3 dat3 na nL nF
    have walk : ∀ {hs2 : List ExceptHandler} {l2 : List ClT}, Cls X hs2 l2 → wMix X.K V0 D l2 cl od ρ' G' → wpAny (model X.prog X.w) X.A (handleBy (.ref p) X.env hs2) (SP X pins D) X.xe { t with heap := g3 } := by
      intro hs2 l2 hk
      induction hk with
      | nil =>
        intro wi
        refine wpAny_handleBy_nil ?_
        obtain ⟨k1, k2, k3, oe, vs, T, oT, ts2, he, hz, hd, hT, hr⟩ := id f3
        unfold PySem.passOn
        refine wpAny_bind (wpAny_field he hd hT ?_)
        have ne : ¬ ((Value.ref T == Value.none) = true) := by simp
        rw [if_neg ne]
        have fin : wpAny (model X.prog X.w) X.A (setFlight (.ref p) X.env.frame) (fun _ s4 => wpAny (model X.prog X.w) X.A (throw (.ref p) : Sem Flow)
            (SP X pins D) X.xe s4) X.xe { t with heap := g3 } := by
          rw [frm]
          refine HandSPX.setFlight_upZ f3 fun g4 k4 u4 => wpAny_throw (tk _ _ ?_)
          refine ⟨p, B, sI, pins, ρ', G', cl, od, rfl, Jn, nb, (up.trans u3).trans u4, .inr (.inr ?_), na, os, ag, wi⟩
          rw [stk]
          exact k4
        first | exact wpAny_bind (wpAny_pure (wpAny_bind fin)) | exact wpAny_bind fin
      | @plain x c ts b0 su np pp hs3 l3 nm run rest ih =>
        intro wi
        obtain ⟨b, hb1, yes, no⟩ := wi
        have LT : PySem.W.Looks (model X.prog X.w) g3 (typeOf (.ref p)) cl := fun A Q E s k q => wpAny_typeOf_ref (k _ _ look3) (by rw [z3.1]; exact q)
        have LM := PySem.W.exm_one (M := model X.prog X.w) (K3.kIn) LT hb1
        have look : ∀ {Q : Value → Shared → Prop} {E : Value → Shared → Prop}, Q c { t with heap := g3 } → wpAny (model X.prog X.w) (X.A.mark (some (.ref p))) (eval (.Name x np) X.env) Q E { t with heap := g3 } := fun {Q E} q => by
          obtain ⟨hg, hdbg, hm | ⟨hm, hv, hnn⟩⟩ := nm
          · exact ld_glob (X := X.suite p ((p, o3) :: (X.pn ++ pins))) U3 hg hm q hdbg
          · exact ld_blt (X := X.suite p ((p, o3) :: (X.pn ++ pins))) U3 hg hm hv q hnn hdbg
        refine wpAny_handleBy_cons (codeAny_handlers_test (look (LM.here ?_))) fun q => nomatch q
        cases b with
        | false =>
          show wpAny _ X.A (handleBy (.ref p) X.env hs3) _ _ _
          exact ih (no rfl)
        | true =>
          refine codeAny_handlers_suite (HandSPX.lands_againZ f3 fun g4 f4 u4 => ?_)
          have K4 : Inv X pins ρ' G' { t with heap := g4 } := Jn.landed nb f4.1 ((up.trans u3).trans u4) os ag
          obtain ⟨o4, v4, look4, z4, dat4⟩ := f4.there
          have U4 := K4.suite look4 dat4 na nL nF
          refine wpAny_mono ((run p o4 cl od (X.pn ++ pins) z4 ⟨_, dat4⟩).run [] _ _ G' _ U4 (yes rfl p na)) (fun fl s6 res => ?_) (fun _ _ z => False.elim z)
          cases fl with
          | next => obtain ⟨ρ6, G6, U6, q6⟩ := res; exact ⟨_, _, U6.unsuite okX, q6⟩
          | brk => obtain ⟨ρ6, G6, U6, q6⟩ := res; exact ⟨_, _, U6.unsuite okX, q6⟩
          | cont => obtain ⟨ρ6, G6, U6, q6⟩ := res; exact ⟨_, _, U6.unsuite okX, q6⟩
          | ret u => obtain ⟨v6, ρ6, G6, U6, r6, q6⟩ := res; exact ⟨_, _, _, U6.unsuite okX, r6, q6⟩
      | @named x n i c ts b0 su np pp hs3 l3 nm hi kn run rest ih =>
        intro wi
        obtain ⟨b, hb1, yes, no⟩ := wi
        have locn : Loc X.env.scope n := .inl kn
        have LT : PySem.W.Looks (model X.prog X.w) g3 (typeOf (.ref p)) cl := fun A Q E s k q => wpAny_typeOf_ref (k _ _ look3) (by rw [z3.1]; exact q)
        have LM := PySem.W.exm_one (M := model X.prog X.w) (K3.kIn) LT hb1
        have look : ∀ {Q : Value → Shared → Prop} {E : Value → Shared → Prop}, Q c { t with heap := g3 } → wpAny (model X.prog X.w) (X.A.mark (some (.ref p))) (eval (.Name x np) X.env) Q E { t with heap := g3 } := fun {Q E} q => by
          obtain ⟨hg, hdbg, hm | ⟨hm, hv, hnn⟩⟩ := nm
          · exact ld_glob (X := X.suite p ((p, o3) :: (X.pn ++ pins))) U3 hg hm q hdbg
          · exact ld_blt (X := X.suite p ((p, o3) :: (X.pn ++ pins))) U3 hg hm hv q hnn hdbg
        refine wpAny_handleBy_cons (codeAny_handlers_test (look (LM.here ?_))) fun q => nomatch q
        cases b with
        | false =>
          show wpAny _ X.A (handleBy (.ref p) X.env hs3) _ _ _
          exact ih (no rfl)
        | true =>
          refine codeAny_handlers_suite_as (HandSPX.lands_againZ f3 fun g4 f4 u4 => ?_)
          have K4 : Inv X pins ρ' G' { t with heap := g4 } := Jn.landed nb f4.1 ((up.trans u3).trans u4) os ag
          obtain ⟨o4, v4, look4, z4, dat4⟩ := f4.there
          have U4 := K4.suite look4 dat4 na nL nF
          refine store_ok (X := X.suite p ((p, o4) :: (X.pn ++ pins))) (v := .ref p) U4 nd hi locn rfl (fun s5 U5 => ?_) (.inr kn)
          refine wpAny_mono ((run p o4 cl od (X.pn ++ pins) z4 ⟨_, dat4⟩).run [] s5 _ G' _ U5 (yes rfl p na)) (fun fl s6 res => ?_) (fun _ _ z => False.elim z)
          have gone : ∀ {ρ6 : L2.St} {G6 : Hp} {Q : Shared → Prop}, Inv (X.suite p ((p, o4) :: (X.pn ++ pins))) [] ρ6 G6 s6 → (∀ s7, Inv X pins (ρ6.set i none) G6 s7 → Q s7) →
              wpAny (model X.prog X.w) X.A (do bindName X.env n .none; unbindBehindTheSuite X.env n pp) (fun _ s7 => Q s7) X.xe s6 := fun {ρ6 G6 Q} U6 hq => gone_ok (U6.unsuite okX) nd hi kn hq
          cases fl with
          | next => obtain ⟨ρ6, G6, U6, q6⟩ := res; exact gone U6 fun s7 J7 => ⟨_, _, J7, q6⟩
          | brk => obtain ⟨ρ6, G6, U6, q6⟩ := res; exact gone U6 fun s7 J7 => ⟨_, _, J7, q6⟩
          | cont => obtain ⟨ρ6, G6, U6, q6⟩ := res; exact gone U6 fun s7 J7 => ⟨_, _, J7, q6⟩
          | ret u => obtain ⟨v6, ρ6, G6, U6, r6, q6⟩ := res; exact gone U6 fun s7 J7 => ⟨_, _, _, J7, r6, q6⟩
    exact walk hh wi
  · cases fl with
    | next => obtain ⟨ρ', G', Jt, q⟩ := res; exact wpAny_execs_nil ⟨ρ', G', Jt.ofTry okX, q⟩
    | brk => obtain ⟨ρ', G', Jt, q⟩ := res; exact ⟨ρ', G', Jt.ofTry okX, q⟩
    | cont => obtain ⟨ρ', G', Jt, q⟩ := res; exact ⟨ρ', G', Jt.ofTry okX, q⟩
    | ret u => obtain ⟨v, ρ', G', Jt, r, q⟩ := res; exact ⟨v, ρ', G', Jt.ofTry okX, r, q⟩
end
/-! over data -/
inductive CK where
  | named (i : Nat) (fl : Str) (h : HK) | const (s : Str)
/-- what the clauses do with an exception: a class that is not told leaves the model -/
def hMix : List (Str × CK) → List Str → Ex → Ms → SR
  | [], oth, x, m => if x.c ∈ oth then .exc x m else .stuck
  | (cn, k) :: more, oth, x, m => if x.c = cn then (match k with
      | .named i fl h => if i < m.r.length then hK fl h x m else .stuck
      | .const s => .ret (.str s) m) else if x.c ∈ more.map Prod.fst ++ oth then hMix more oth x m else .stuck
def sTryMix (cs : List (Str × CK)) (oth : List Str) (F : Ms → SR) (m : Ms) : SR := match F m with
  | .exc x m1 => hMix cs oth x m1
  | r => r
inductive DC (X : Cx) (oth : List Str) : List ExceptHandler → List (Str × CK) → List ClT → Prop
  | nil : DC X oth [] [] []
  | named {cn fl n : Str} {C fI : Addr} {i : Nat} {h : HK} {b0 : Stmt} {suite : List Stmt} {np pos' : Pos} {hds : List ExceptHandler} {cs : List (Str × CK)} {l : List ClT} (T : ExnT X.K X.mg cn fl C fI) (te : PySem.W.exmOne X.K (.ref C) (.ref C) = some true)
      (ho : ∀ o ∈ cs.map Prod.fst ++ oth, ∀ C', X.mg o = some (.ref C') → PySem.W.exmOne X.K (.ref C') (.ref C) = some false) (hsu : HSuite n fl h (b0 :: suite)) (hi : X.N[i]? = some n) (hln : X.env.kindOf n = some .local) (hg : Gl X cn) (hd : (cn == ("__debug__" : Str)) = false)
      (hnd : (n == ("__debug__" : Str)) = false) (hncd : (n == ("__classdict__" : Str)) = false) (hv : Vis X.env.scope n) (hab : ∀ p, attributeBase (.Name n p) fl X.env (eval (.Name n p) X.env) = eval (.Name n p) X.env) (r : DC X oth hds cs l) :
      DC X oth (.ExceptHandler (some (.Name cn np)) (some n) (b0 :: suite) pos' :: hds) ((cn, .named i fl h) :: cs) ((some i, .ref C, tHX C fl i h) :: l)
  | const {cn s : Str} {C : Addr} {j} {p1 p2 np pos' : Pos} {hds : List ExceptHandler} {cs : List (Str × CK)} {l : List ClT} (gC : X.mg cn = some (.ref C)) (te : PySem.W.exmOne X.K (.ref C) (.ref C) = some true)
      (ho : ∀ o ∈ cs.map Prod.fst ++ oth, ∀ C', X.mg o = some (.ref C') → PySem.W.exmOne X.K (.ref C') (.ref C) = some false) (hg : Gl X cn) (hd : (cn == ("__debug__" : Str)) = false) (r : DC X oth hds cs l) :
      DC X oth (.ExceptHandler (some (.Name cn np)) none [.Return (some (.Constant (.str s) j p1)) p2] pos' :: hds) ((cn, .const s) :: cs) ((none, .ref C, fun _ _ _ => tRet (tC (.str s))) :: l)
theorem DC.cls {X : Cx} {oth : List Str} {hds : List ExceptHandler} {cs : List (Str × CK)} {l : List ClT} (h : DC X oth hds cs l) : Cls X hds l := by
  induction h with
  | nil => exact .nil
  | named T te ho hsu hi hln hg hd hnd hncd hv hab r ih =>
    refine .named ⟨hg, hd, .inl T.gC⟩ hi hln (fun a oe cls d pn hz hvs => ?_) ih
    cases hsu with
    | tup => exact pss_one (ps_ret (pe_tup (pa_cons pe_str (pa_cons (pe_fldX T hz hvs (pv _ hi hv hnd hncd) (hab _)) pa_nil))))
    | fld => exact pss_one (ps_ret (pe_fldX T hz hvs (pv _ hi hv hnd hncd) (hab _)))
  | const gC te ho hg hd r ih => exact .plain ⟨hg, hd, .inl gC⟩ (fun a oe cls d pn hz hvs => pss_one (ps_ret pe_str)) ih
theorem DC.wish {X : Cx} {oth : List Str} {hds : List ExceptHandler} {cs : List (Str × CK)} {l : List ClT} (h : DC X oth hds cs l) {W : WX} {Z A : List Addr} {O : Ow} {H : Hp} {σ : L2.St} {m : Ms} {x : Ex} {D : Ends} {cls : Value} {dd : Option Addr}
    (q : SPD X.K X.mg W Z A O H D (hMix cs oth x m)) (s : RS X.K Z A O H σ m) (r : ExR X.K X.mg A (bad A O Z) H cls dd x) : wMix X.K W D l cls dd σ H := by
  induction h with
  | nil =>
    unfold hMix at q
    by_cases hm : x.c ∈ oth
    · rw [if_pos hm] at q
      exact q cls dd σ A O H .refl s r
    · rw [if_neg hm] at q
      exact q.elim
  | @named cn fl n C fI i h b0 suite np pos' hds cs l T te ho hsu hi hln hg hd hnd hncd hv hab _ ih =>
    unfold hMix at q
    by_cases hc : x.c = cn
    · rw [if_pos hc] at q
      simp only at q
      by_cases hl : i < m.r.length
      · rw [if_pos hl] at q
        have ec : cls = .ref C := by
          obtain ⟨C', h1, h2, _⟩ := id r
          rw [hc, T.gC] at h1
          cases h1
          exact h2
        subst ec
        exact ⟨true, te, fun _ a _ => hx_ok T.gC s hl hc r q a, fun z => Bool.noConfusion z⟩
      · rw [if_neg hl] at q
        exact q.elim
    · rw [if_neg hc] at q
      by_cases hm : x.c ∈ cs.map Prod.fst ++ oth
      · rw [if_pos hm] at q
        obtain ⟨C', h1, h2, h3⟩ := id r
        refine ⟨false, ?_, fun z => Bool.noConfusion z, fun _ => ih q⟩
        rw [h2]
        exact ho _ hm C' h1
      · rw [if_neg hm] at q
        exact q.elim
  | @const cn z C j p1 p2 np pos' hds cs l gC te ho hg hd _ ih =>
    unfold hMix at q
    by_cases hc : x.c = cn
    · rw [if_pos hc] at q
      have ec : cls = .ref C := by
        obtain ⟨C', h1, h2, _⟩ := id r
        rw [hc, gC] at h1
        cases h1
        exact h2
      subst ec
      exact ⟨true, te, fun _ a _ => q (.str z) σ A O H .refl s (.str z), fun z => Bool.noConfusion z⟩
    · rw [if_neg hc] at q
      by_cases hm : x.c ∈ cs.map Prod.fst ++ oth
      · rw [if_pos hm] at q
        obtain ⟨C', h1, h2, h3⟩ := id r
        refine ⟨false, ?_, fun z => Bool.noConfusion z, fun _ => ih q⟩
        rw [h2]
        exact ho _ hm C' h1
      · rw [if_neg hm] at q
        exact q.elim
theorem ds_tryMix {X : Cx} {W : WX} {oth : List Str} {cs : List (Str × CK)} {l : List ClT} {body : List Stmt} {h1 : ExceptHandler} {hds : List ExceptHandler} {pos : Pos} {F : Ms → SR} (hs : X.stack = X.env :: X.outer) (hf : X.env.frame = some X.env.locals) (hN : X.N.Nodup) (tk : Takes X W)
    (hb : ∀ (W' : WX) (pn : List (Addr × Obj)) (xe : Value → Shared → Prop), Takes (X.tr pn xe) W' → PassesOwn (model X.prog X.w) X.A X.env xe → DSs (X.tr pn xe) W' body F) (hc : DC X oth (h1 :: hds) cs l) :
    DS X W (.Try body (h1 :: hds) [] [] pos) (sTryMix cs oth F) := by
  refine PS.imp (ps_tryMix (tb := fun W' => tSt X.K X.mg W' F) hs hf hN tk hb hc.cls) fun D σ H ⟨Z, A, O, m, s, q⟩ => ⟨Z, A, O, m, s, ?_⟩
  unfold sTryMix at q
  cases eF : F m with
  | next m1 => rw [eF] at q; exact q
  | ret d m1 => rw [eF] at q; exact q
  | brk m1 => rw [eF] at q; exact q
  | cnt m1 => rw [eF] at q; exact q
  | stuck => rw [eF] at q; exact q
  | exc x m1 =>
    rw [eF] at q
    intro cls dd σ1 A1 O1 H1 ev s1 r1
    exact hc.wish (q.ev ev) s1 r1
section
variable {cs : List (Str × CK)} {oth : List Str} {F : Ms → SR} {m : Ms} {d : D} {cn fl : Str} {r : List Sl} {S : Store}
def tryMK (cs : List (Str × CK)) (oth : List Str) : SR → SR
  | .exc x m1 => hMix cs oth x m1
  | r => r
@[simp] theorem ev_sTryMix : sTryMix cs oth F m = tryMK cs oth (F m) := by
  unfold sTryMix tryMK
  cases F m <;> rfl
@[simp] theorem ev_tryMK_next : tryMK cs oth (.next m) = .next m := (rfl)
@[simp] theorem ev_tryMK_ret : tryMK cs oth (.ret d m) = .ret d m := (rfl)
@[simp] theorem ev_tryMK_brk : tryMK cs oth (.brk m) = .brk m := (rfl)
@[simp] theorem ev_tryMK_cnt : tryMK cs oth (.cnt m) = .cnt m := (rfl)
@[simp] theorem ev_tryMK_exc {x : Ex} : tryMK cs oth (.exc x m) = hMix cs oth x m := (rfl)
theorem hMix_tup {i : Nat} {s : Str} (h : i < r.length) : hMix ((cn, .named i fl (.tup s)) :: cs) oth ⟨cn, [(fl, d)]⟩ ⟨r, S⟩ = .ret (.tup [.str s, d]) ⟨r, S⟩ := by
  unfold hMix
  simp [h, hK]
theorem hMix_fld {i : Nat} (h : i < r.length) : hMix ((cn, .named i fl .fld) :: cs) oth ⟨cn, [(fl, d)]⟩ ⟨r, S⟩ = .ret d ⟨r, S⟩ := by
  unfold hMix
  simp [h, hK]
theorem hMix_const {s : Str} {fs : List (Str × D)} : hMix ((cn, .const s) :: cs) oth ⟨cn, fs⟩ m = .ret (.str s) m := by
  unfold hMix
  simp
theorem hMix_miss {k : CK} {x : Ex} (h : ¬ x.c = cn) (h2 : x.c ∈ cs.map Prod.fst ++ oth) : hMix ((cn, k) :: cs) oth x m = hMix cs oth x m := by
  conv => lhs; unfold hMix
  rw [if_neg h, if_pos h2]
end
end Wd

/-! set(list), told by what stands behind each member; len(set(..)), sorted(set(..)). -/
namespace Wd
open PySem PySem.Spec PyProof.Rows L2
/-- a new set's object -/
abbrev set0 (w : World) : Obj := { cls := .type "set", dict := none, data := .set #[] 0 (.fresh 0 0 (!w.params.followText "set-order")) }
section
variable {P : Program} {w : World} {A : Around} {E : Value → Shared → Prop} {s : Shared}
/-- the members go in one by one: J i, what holds of the heap behind i of them -/
theorem set_fill {I S : Addr} {fp wr : List Addr} {G : Array GenState → Array GenState → Prop} {n : Nat} {Pv : Nat → Value → Prop} {St : Nat → Shared → Prop} {R : Result → Shared → Prop} {J : Nat → Heap → Prop}
    (W : WalksS P w A.in1 I fp wr G n Pv St) (hSf : S ∉ fp) (hJ : ∀ i h h', J i h → (∀ o, h.get? S = some o → h'.get? S = some o) → J i h')
    (add : ∀ i v (s : Shared) (Q : Bool → Shared → Prop) (E : Value → Shared → Prop), i < n → Pv i v → J i s.heap → (∀ b h' tk, s.toks ≤ tk → Heap.SameBut S s.heap h' → J (i + 1) h' → Q b { s with heap := h', toks := tk }) → wpAny (model P w) A.in1 (setAdd S v) Q E s) :
    ∀ (k i : Nat) (s : Shared), n - i = k → i ≤ n → St i s → J i s.heap → (∀ s', Moved (S :: wr) G s s' → J n s'.heap → R (.ok (.ret .none)) s') → codeAny (model P w) A (.builtin "set.update.loop" ⟨[.ref S, .ref I], []⟩) R s := by
  have out : S ∉ wr := fun z => hSf (W.sub _ z)
  have wider : ∀ b ∈ wr, b ∈ S :: wr := fun b z => List.mem_cons_of_mem _ z
  intro k
  induction k with
  | zero =>
    intro i s hk hi st j hR
    obtain rfl : i = n := by omega
    refine codeAny_builtin F.entry_set_update_loop ?_
    rw [Around.under_plainId F.plain_set_update_loop _]
    refine wpAny_bind (m := pyNext (.ref I)) (W.done s _ _ st fun s2 mv => ?_)
    show wpAny _ _ (ret Value.none) _ _ _
    exact wpAny_pure (hR s2 (mv.mono wider) (hJ _ _ _ j fun o e => mv.heap S o out e))
  | succ k ih =>
    intro i s hk hi st j hR
    have lt : i < n := by omega
    refine codeAny_builtin F.entry_set_update_loop ?_
    rw [Around.under_plainId F.plain_set_update_loop _]
    refine wpAny_bind (m := pyNext (.ref I)) (W.item i s _ _ lt st fun v s2 pv st2 mv => ?_)
    show wpAny _ _ (holding [v] (setAdd S v) >>= _) _ _ _
    refine wpAny_bind (wpAny_holding (add i v s2 _ _ lt pv (hJ _ _ _ j fun o e => mv.heap S o out e) fun b h3 tk htk same j3 => ?_))
    refine wpAny_pure ⟨plainId_quiet F.plain_set_update_loop _, ih (i + 1) _ (by omega) lt (W.frame _ s2 _ _ st2 htk fun b hb o e => ?_) j3 fun s4 mv4 j4 => ?_⟩
    · have nb : b ≠ S := fun z => hSf (by rw [← z]; exact hb)
      rw [same.2 b nb]
      exact e
    · refine hR s4 (Moved.trans W.gtrans ((mv.mono wider).then_heap htk fun b o hb e => ?_) mv4) j4
      have nb : b ≠ S := fun z => hb (by rw [z]; exact List.mem_cons_self)
      rw [same.2 b nb]
      exact e
/-- set(list): J told at the address of the new set -/
theorem set_of_list {l : Addr} {items : Array Value} {Q : Value → Shared → Prop} {J : Nat → Heap → Prop} (hh : A.handled = none) (hl : s.heap.IsList l items) (hJ : ∀ i h h', J i h → (∀ o, h.get? s.heap.objs.size = some o → h'.get? s.heap.objs.size = some o) → J i h')
    (j0 : ∀ h, h.get? s.heap.objs.size = some (set0 w) → J 0 h)
    (add : ∀ (A : Around) i v (s2 : Shared) (Q : Bool → Shared → Prop) (E : Value → Shared → Prop), items[i]? = some v → J i s2.heap → (∀ b h' tk, s2.toks ≤ tk → Heap.SameBut s.heap.objs.size s2.heap h' → J (i + 1) h' → Q b { s2 with heap := h', toks := tk }) → wpAny (model P w) A (setAdd s.heap.objs.size v) Q E s2)
    (hq : ∀ (h' : Heap) (tk : Nat), J items.size h' → (∀ b o, s.heap.get? b = some o → h'.get? b = some o) → Q (.ref s.heap.objs.size) { s with heap := h', toks := tk }) :
    wpAny (model P w) A (call (.type "set") [.ref l]) Q E s := by
  obtain ⟨c, tl, hmro⟩ := F.called_set.mro
  have hmade := F.called_set.made
  have hsub := F.called_set.sub
  have n1 := F.called_set.notType
  have n2 := F.called_set.canCreate
  have n3 := F.typeCall_set_1 (.ref l)
  refine wpAny_call (codeAny_of_tree ?_)
  show wpAny _ _ (callAny (.type "set") _) _ _ _
  refine wpAny_pure ⟨Code.quiet_builtin _ (by decide +kernel), codeAny_builtin F.entry_type_call ?_⟩
  rw [Around.under_plain (weight_type_call_type "set" [.ref l] []) rfl]
  repeat (any_goals (first | assumption | wp_step))
  refine codeAny_mono (code_set_led1 (.ref l) (E := E) (Q₁ := fun obj s1 => obj = .ref s.heap.objs.size ∧ s1 = { s with heap := s.heap.push (set0 w) }) ⟨rfl, rfl⟩) fun r s1 hr => ?_
  rcases r with e | (obj | _ | _ | _) <;> first | exact hr | exact hr.elim | skip
  obtain ⟨rfl, rfl⟩ := hr
  have hS : (s.heap.push (set0 w)).get? s.heap.objs.size = some (set0 w) := Heap.get?_push_size _ rfl
  have hT : Shared.TypeIs { s with heap := s.heap.push (set0 w) } (.ref s.heap.objs.size) "set" := ⟨_, hS, rfl⟩
  have hli := F.called_set.init.lookup
  have hbi := F.called_set.init.bind (.ref s.heap.objs.size)
  repeat (any_goals (first | assumption | wp_step))
  refine codeAny_mono (codeAny_call_builtin (R := wants (fun r s2 => r = .none ∧ ∃ h' tk, s2 = { s with heap := h', toks := tk } ∧ J items.size h' ∧ ∀ b o, s.heap.get? b = some o → h'.get? b = some o) E) F.called_set.init.plain F.entry_set_init (check_set_init_1 hT ?_)) fun r2 s2 hr2 => ?_
  · obtain ⟨⟨ocls, odict, odata, oslots⟩, hol, hcl, nl, hdl⟩ := hl
    obtain rfl : ocls = .type "list" := hcl
    obtain rfl : odata = .seq items nl := hdl
    have hol2 : (s.heap.push (set0 w)).get? l = some { cls := .type "list", dict := odict, data := .seq items nl, slots := oslots } := Heap.get?_push_of_some _ hol
    have isl : (s.heap.push (set0 w)).IsList l items := ⟨_, hol2, rfl, nl, rfl⟩
    have hsls := F.sub_list_set
    have hslf := F.sub_list_frozenset
    have hne : (Value.type "list" == Value.type "dict") = false := by decide
    unfold Builtin.«set.__init__» noKeywords Builtin.Frozenset.updateFrom
    generalize hPI : pyIter = PI
    wp_walk
    subst hPI
    refine wpAny_pyIter_list isl ?_
    refine wpAny_bind (wpAny_runValue ?_)
    have lS : l < s.heap.objs.size := Heap.lt_size hol
    have zI : (s.heap.push (set0 w)).objs.size = s.heap.objs.size + 1 := Heap.size_push ..
    have nI : l ≠ (s.heap.push (set0 w)).objs.size := by rw [zI]; exact Nat.ne_of_lt (Nat.lt_succ_of_lt lS)
    have nS : s.heap.objs.size ∉ [(s.heap.push (set0 w)).objs.size, l] := by
      rw [zI, List.mem_cons, List.mem_singleton, not_or]
      exact ⟨Nat.ne_of_lt (Nat.lt_succ_self _), Nat.ne_of_gt lS⟩
    refine set_fill ((Walks.list (show A.in1.in1.in1.handled = none from hh) _ l nI items).toS) nS hJ (fun i v s2 Q E _ hv j h => add _ i v s2 Q E hv j h) (items.size - 0) 0 _ (by omega) (Nat.zero_le _) ⟨⟨_, Heap.get?_push_size _ rfl, rfl, rfl⟩, isl.push _⟩ (j0 _ (Heap.get?_push_of_some _ hS)) fun s3 mv j3 => ?_
    obtain ⟨h3, g3, d3, t3, o3⟩ := s3
    obtain rfl : g3 = s.gens := mv.gens
    obtain rfl : d3 = s.drawn := mv.drawn
    obtain rfl : o3 = s.os := mv.os
    show wpAny _ _ _ _ _ _
    refine wpAny_pure ?_
    show wpAny _ _ (ret Value.none) _ _ _
    refine wpAny_pure ⟨rfl, h3, t3, rfl, j3, fun b o e => mv.heap b o ?_ (Heap.get?_push_of_some _ (Heap.get?_push_of_some _ e))⟩
    have bl := Heap.lt_size e
    rw [zI, List.mem_cons, List.mem_singleton, not_or]
    exact ⟨Nat.ne_of_lt bl, Nat.ne_of_lt (Nat.lt_succ_of_lt bl)⟩
  · rcases r2 with e | (v | _ | _ | _) <;> first | exact hr2 | exact hr2.elim | skip
    obtain ⟨rfl, h3, t3, rfl, j3, k3⟩ := hr2
    repeat (any_goals (first | assumption | wp_step))
    exact hq _ _ j3 k3
end
end Wd

namespace Wd
open PySem PySem.Spec PyProof.Rows L2
/-! ### len(set(texts)) -/
/-- how many there are among the first n -/
def cntd {α : Type} [DecidableEq α] (xs : List α) : Nat → Nat
  | 0 => 0
  | n + 1 => match xs[n]? with
    | some x => if x ∈ xs.take n then cntd xs n else cntd xs n + 1
    | none => cntd xs n
theorem cntd_le {α : Type} [DecidableEq α] {xs : List α} : ∀ n, cntd xs n ≤ n
  | 0 => Nat.le_refl 0
  | n + 1 => by
    have := cntd_le (xs := xs) n
    unfold cntd
    cases xs[n]? with
    | none => simp only; omega
    | some x => simp only; split <;> omega
theorem cntd_eq {α : Type} [DecidableEq α] {xs : List α} : ∀ n, n ≤ xs.length → (cntd xs n = n ↔ (xs.take n).Nodup)
  | 0, _ => by simp [cntd]
  | n + 1, hn => by
    have ih := cntd_eq (xs := xs) n (by omega)
    have lt : n < xs.length := by omega
    have le := cntd_le (xs := xs) n
    have e : xs.take (n + 1) = xs.take n ++ [xs[n]] := by rw [List.take_add_one, List.getElem?_eq_getElem lt]; rfl
    rw [e, List.nodup_append]
    unfold cntd
    rw [List.getElem?_eq_getElem lt]
    by_cases h : xs[n] ∈ xs.take n
    · simp only [if_pos h]
      constructor
      · intro z; omega
      · rintro ⟨_, _, z⟩
        exact absurd rfl (z _ h _ (List.mem_singleton.mpr rfl))
    · simp only [if_neg h]
      constructor
      · intro z
        refine ⟨ih.mp (by omega), by simp, fun a ha b hb hab => ?_⟩
        rw [List.mem_singleton] at hb
        rw [hab, hb] at ha
        exact h ha
      · rintro ⟨z, _, _⟩
        rw [ih.mpr z]
theorem cntd_lt {α : Type} [DecidableEq α] {xs : List α} : cntd xs xs.length < xs.length ↔ ¬ xs.Nodup := by
  have h := cntd_eq (xs := xs) xs.length (Nat.le_refl _)
  have le := cntd_le (xs := xs) xs.length
  rw [List.take_length] at h
  rw [← h]
  omega
def strsOf : List D → Option (List Str)
  | [] => some []
  | .str i :: ds => (strsOf ds).map (i :: ·)
  | _ :: _ => none
@[simp] theorem strsOf_map {ns : List Str} : strsOf (ns.map D.str) = some ns := by
  induction ns with
  | nil => rfl
  | cons b bs ih => show (strsOf (bs.map D.str)).map _ = _; rw [ih]; rfl
theorem strsOf_rep {K : PySem.W.Frag} {A B : List Addr} {H : Hp} : ∀ {ds : List D} {vs : List V} {ns : List Str}, Reps K A B H vs ds → strsOf ds = some ns → vs = ns.map V.str
  | [], _, _, .nil, e => by cases e; rfl
  | .str i :: ds, _, ns, .cons r t, e => by
    cases r
    cases e1 : strsOf ds with
    | none => simp [strsOf, e1] at e
    | some ms =>
      simp [strsOf, e1] at e
      subst e
      rw [strsOf_rep t e1]
      rfl
  | .non :: ds, _, _, _, e => by simp [strsOf] at e
  | .bl _ :: ds, _, _, _, e => by simp [strsOf] at e
  | .int _ :: ds, _, _, _, e => by simp [strsOf] at e
  | .tup _ :: ds, _, _, _, e => by simp [strsOf] at e
  | .lst _ :: ds, _, _, _, e => by simp [strsOf] at e
  | .ro _ :: ds, _, _, _, e => by simp [strsOf] at e
  | .loc _ :: ds, _, _, _, e => by simp [strsOf] at e
def lenSetS (ds : List D) (m : Ms) : Res D := match strsOf ds with
  | some xs => if xs.length < 4000 then .ok (.int (cntd xs xs.length)) m else .stuck
  | none => .stuck
section
variable {X : Cx} {W : WX} {a : Expr} {fq : Ms → Res (List D)}
def tSetS (K : PySem.W.Frag) (ta : TE) : TE := fun σ H Q => ta σ H fun x H1 => ∃ (l : Addr) (xs : List Str), x = .ref l ∧ SqL K H1 l (xs.map V.str) ∧ xs.length < 4000 ∧ Q (.int (cntd xs xs.length : Nat)) H1
theorem pe_setS {ta : TE} {p p2 q pos : Pos} (hc : X.calm = true) (hg : Gl X "len") (hm : X.mg "len" = none) (hg2 : Gl X "set") (hm2 : X.mg "set" = none) (ha : PE X a ta) (na : starEach [a] X.env = (false, eval a X.env) :: starEach [] X.env) :
    PE X (.Call (.Name "len" p) [.Call (.Name "set" p2) [a] [] q] [] pos) (tSetS X.K ta) := by
  refine ⟨fun pins s σ H Q I h => Call_ (ld_blt I hg hm boot_len (PyProof.Rows.callWith_builtin1 (PyProof.Rows.args_cons (Call_ (ld_blt I hg2 hm2 boot_set (PyProof.Rows.callWith_type1 (PyProof.Rows.args_cons (thn (ha.run pins s σ H _ I h) fun v s1 ⟨x, H1, I1, r1, q1⟩ => PyProof.Rows.args_nil ?_) na) na rfl))) rfl) rfl rfl))⟩
  obtain ⟨l, xs, rfl, hq, hl, q1⟩ := q1
  cases r1
  obtain ⟨its, r, pl, hz⟩ := I1.list hq
  have hlen : its.toArray.size = xs.length := by rw [List.size_toArray, ← r.length, List.length_map]
  have at_ : ∀ (i : Nat) (v : Value), its.toArray[i]? = some v → ∃ x t, xs[i]? = some x ∧ v = .str x t := fun i v hv => by
    have hv' : its[i]? = some v := by simpa using hv
    have lt : i < xs.length := by
      rw [← hlen, List.size_toArray]
      exact (List.getElem?_eq_some_iff.mp hv').1
    obtain ⟨u, hu, ru⟩ := r.get (x := .str xs[i]) (show (xs.map V.str)[i]? = some (.str xs[i]) by simp [lt])
    rw [hv'] at hu
    cases hu
    obtain ⟨t, rfl⟩ := ru
    exact ⟨xs[i], t, List.getElem?_eq_getElem lt, rfl⟩
  refine set_of_list (J := fun i h => h.SetOf (PySem.strKind X.prog X.w) s1.heap.objs.size (fun k => decide (k ∈ xs.take i)) (cntd xs i)) (I1.ok.hd hc) pl.isList (fun i h h' j k => ?_) (fun h e => ?_) (fun A i v s2 Q E hv j fin => ?_) fun h' tk j k => ?_
  · obtain ⟨o, es, ep, t, ho, rest⟩ := j
    exact ⟨o, es, ep, t, k o ho, rest⟩
  · exact PyProof.Rows.SetOf_congr ((PyProof.Rows.setObjOf_fresh (knd := PySem.strKind X.prog X.w) _).setOf e (by unfold scanBound; omega)) (fun _ => by simp) rfl
  · obtain ⟨x, t, hx, rfl⟩ := at_ i v hv
    have hi : i < xs.length := (List.getElem?_eq_some_iff.mp hx).1
    have lc := cntd_le (xs := xs) i
    unfold setAdd
    refine wpAny_holding (wpAny_bind ((PySem.strKind X.prog X.w).pyHash (k := x) (strKind_is _ _ _ _) ?_))
    refine wpAny_setAddHashed_of (knd := PySem.strKind X.prog X.w) (s := { s2 with toks := s2.toks + 1 }) (strKind_is _ _ _ _) rfl j (by unfold scanBound; omega) fun h' sb j2 => fin _ h' _ (Nat.le_succ _) sb ?_
    refine PyProof.Rows.SetOf_congr j2 (fun y => ?_) ?_
    · rw [List.take_add_one, hx]
      simp [List.mem_append]
    · have e : cntd xs (i + 1) = if x ∈ xs.take i then cntd xs i else cntd xs i + 1 := by
        rw [cntd, hx]
      rw [e]
      by_cases z : x ∈ xs.take i <;> simp [z]
  · rw [hlen] at j
    refine PyProof.Rows.args_nil ?_
    obtain ⟨o, es, ep, t, ho, hex, hd, _, _, _, hf, hn⟩ := j
    have lc := cntd_le (xs := xs) xs.length
    have I2 : Inv X pins σ H1 { s1 with heap := h', toks := tk } := I1.kept fun b o e => k b o e
    exact call_len_set ho hex hd hf (by rw [hn]; omega) ⟨.int (cntd xs xs.length : Nat), H1, I2.tok _, ⟨_, by rw [hn]⟩, q1⟩
/-- len(set(xs)) -/
theorem de_lenSetS {p p2 q pos : Pos} (hc : X.calm = true) (hm : X.mg "len" = none) (hm2 : X.mg "set" = none) (ha : DL X W a fq) (hg : Gl X "len" := by rfl) (hg2 : Gl X "set" := by rfl) (na : starEach [a] X.env = (false, eval a X.env) :: starEach [] X.env := by rfl) :
    DE X W (.Call (.Name "len" p) [.Call (.Name "set" p2) [a] [] q] [] pos) (e1q lenSetS fq) := by
  refine PE.imp (pe_setS hc hg hm hg2 hm2 ha na) fun σ H Q ⟨Z, A, O, m, s, q⟩ => ⟨Z, A, O, m, s, RP.bind q fun v ds m1 A1 O1 H1 ev s1 ⟨l, xs, ea, hx, rx⟩ q1 => ?_⟩
  subst ea
  cases eb : strsOf ds with
  | none => simp only [lenSetS, eb] at q1; exact q1.elim
  | some bs =>
    simp only [lenSetS, eb] at q1
    have := strsOf_rep rx eb
    subst this
    by_cases z : bs.length < 4000
    · rw [if_pos z] at q1
      exact ⟨l, bs, rfl, hx, z, q1.ret s1 (.int _)⟩
    · rw [if_neg z] at q1
      exact q1.elim
end
end Wd

namespace Wd
open PySem PySem.Spec PyProof.Rows L2
/-! ### sorted(set(numbers)) -/
def dd (ns : List Int) : List Int := ns.foldr (fun x acc => if x ∈ acc then acc else x :: acc) []
theorem dd_cons {x : Int} {ns : List Int} : dd (x :: ns) = if x ∈ dd ns then dd ns else x :: dd ns := rfl
theorem dd_mem {ns : List Int} {k : Int} : k ∈ dd ns ↔ k ∈ ns := by
  induction ns with
  | nil => exact Iff.rfl
  | cons x ns ih =>
    rw [dd_cons, List.mem_cons]
    by_cases h : x ∈ dd ns
    · rw [if_pos h, ih]
      refine ⟨.inr, fun z => ?_⟩
      rcases z with z | z
      · subst z; exact ih.mp h
      · exact z
    · rw [if_neg h, List.mem_cons, ih]
theorem dd_nodup {ns : List Int} : (dd ns).Nodup := by
  induction ns with
  | nil => exact List.nodup_nil
  | cons x ns ih =>
    rw [dd_cons]
    by_cases h : x ∈ dd ns
    · rw [if_pos h]; exact ih
    · rw [if_neg h]; exact List.nodup_cons.mpr ⟨h, ih⟩
def sortSet (ns : List Int) : List Int := sortI (dd ns)
theorem sortSet_mem {ns : List Int} {k : Int} : k ∈ sortSet ns ↔ k ∈ ns := by
  unfold sortSet
  rw [(sortI_perm (dd ns)).mem_iff, dd_mem]
theorem sortSet_lt {ns : List Int} : (sortSet ns).Pairwise (· < ·) := by
  have h1 : (sortSet ns).Pairwise (· ≤ ·) := sortI_le (dd ns)
  have h2 : (sortSet ns).Nodup := ((sortI_perm (dd ns)).nodup_iff).mpr dd_nodup
  refine List.pairwise_iff_getElem.mpr fun i j hi hj hij => ?_
  have a := List.pairwise_iff_getElem.mp h1 i j hi hj hij
  have b := List.pairwise_iff_getElem.mp h2 i j hi hj hij
  omega
theorem lt_nodup {ns : List Int} (h : ns.Pairwise (· < ·)) : ns.Nodup := h.imp fun h => Int.ne_of_lt h
theorem sortSet_of {ns ms : List Int} (h1 : ms.Pairwise (· < ·)) (h2 : ∀ k, k ∈ ms ↔ k ∈ ns) : ms = sortSet ns := by
  exact sortI_of ((List.perm_ext_iff_of_nodup (lt_nodup h1) dd_nodup).mpr fun k => by rw [h2, dd_mem]) (h1.imp fun h => Int.le_of_lt h)
section
variable {X : Cx} {W : WX} {a : Expr} {fq : Ms → Res (List D)}
def rSetL (K : PySem.W.Frag) (w : World) : List V → Hp → VK → Prop := fun vs H Q => ∃ (l : Addr) (ns : List Int), vs = [.ref l] ∧ SqL K H l (ns.map V.int) ∧ ns.length < 4000 ∧ ∀ p c, H p = none → c ≤ ns.length → Q (.ref p) (upd H p (SetO w p (fun k => decide (k ∈ ns)) c))
theorem cr_setL (hc : X.calm = true) : CallR X (.type "set") (rSetL X.K X.w) := by
  intro pins s σ H vs us Q I r h
  obtain ⟨l, ns, rfl, hq, hl, q⟩ := h
  rw [Vals.ref1 r]
  obtain ⟨its, rv, pl, hz⟩ := I.list hq
  have hlen : its.toArray.size = ns.length := by rw [List.size_toArray, ← rv.length, List.length_map]
  have at_ : ∀ (i : Nat) (v : Value), its.toArray[i]? = some v → ∃ x t, ns[i]? = some x ∧ v = .int x t := fun i v hv => by
    have hv' : its[i]? = some v := by simpa using hv
    have lt : i < ns.length := by
      rw [← hlen, List.size_toArray]
      exact (List.getElem?_eq_some_iff.mp hv').1
    obtain ⟨u, hu, ru⟩ := rv.get (x := .int ns[i]) (show (ns.map V.int)[i]? = some (.int ns[i]) by simp [lt])
    rw [hv'] at hu
    cases hu
    obtain ⟨t, rfl⟩ := ru
    exact ⟨ns[i], t, List.getElem?_eq_getElem lt, rfl⟩
  refine set_of_list (J := fun i h => ∃ c, c ≤ i ∧ SetR X.w h s.heap.objs.size (fun k => decide (k ∈ ns.take i)) c) (I.ok.hd hc) pl.isList (fun i h h' j k => ?_) (fun h e => ⟨0, Nat.le_refl 0, setR_new_at e⟩) (fun A i v s2 Q E hv j fin => ?_) fun h' tk j k => ?_
  · obtain ⟨c, hc, R⟩ := j
    exact ⟨c, hc, R.at k⟩
  · obtain ⟨x, t, hx, rfl⟩ := at_ i v hv
    obtain ⟨c, hc, R⟩ := j
    have hi : i < ns.length := (List.getElem?_eq_some_iff.mp hx).1
    unfold setAdd
    refine wpAny_holding (wpAny_bind ((intKind X.prog X.w).pyHash (k := x) (intKind_is _ _ _ _) ?_))
    refine setR_add_hashed (s := { s2 with toks := s2.toks + 1 }) R (by unfold scanBound; omega) fun h' sb R2 => fin _ h' _ (Nat.le_succ _) sb ⟨_, ?_, R2.congr fun j => ?_⟩
    · split <;> omega
    · rw [List.take_add_one, hx]
      simp [List.mem_append]
  · obtain ⟨c, hc2, R⟩ := j
    rw [hlen] at hc2
    rw [hlen, List.take_length] at R
    have fr : H s.heap.objs.size = none := I.hok.fresh (Nat.le_refl _)
    exact ⟨.ref _, _, I.laid (t' := tk) k (Nat.le_refl _) (setO_new R), rfl, q _ c fr hc2⟩
theorem reps_nums {K : PySem.W.Frag} {A B : List Addr} {H : Hp} : ∀ ns : List Int, Reps K A B H (ns.map V.int) (ns.map D.int)
  | [] => .nil
  | _ :: ns => .cons (.int _) (reps_nums ns)
def nSortSet (ds : List D) (m : Ms) : Res (List D) := match intsOf ds with
  | some ns => if ns.length < 64 then .ok ((sortSet ns).map D.int) m else .stuck
  | none => .stuck
theorem dn_sortSet {p p2 q pos : Pos} (hc : X.calm = true) (hm : X.mg "sorted" = none) (hm2 : X.mg "set" = none) (ha : DL X W a fq) (hg : Gl X "sorted" := by rfl) (hg2 : Gl X "set" := by rfl) (na : starEach [a] X.env = (false, eval a X.env) :: starEach [] X.env := by rfl)
    (nb : starEach [.Call (.Name "set" p2) [a] [] q] X.env = (false, eval (.Call (.Name "set" p2) [a] [] q) X.env) :: starEach [] X.env := by rfl) :
    DN X W (.Call (.Name "sorted" p) [.Call (.Name "set" p2) [a] [] q] [] pos) (n1q nSortSet fq) := by
  refine PE.imp (pe_callB (cr_sortedSet hc) hg hm boot_sorted (pa_cons (pe_callTy (cr_setL hc) hg2 hm2 boot_set (pa_cons ha pa_nil na) (by decide) (by decide) na rfl) pa_nil nb) (by decide) (by decide) nb rfl) fun σ H Q ⟨Z, A, O, m, s, q⟩ => ⟨Z, A, O, m, s, RP.bind q fun v ds m1 A1 O1 H1 ev s1 ⟨l, xs, ea, hx, rx⟩ q1 => ?_⟩
  subst ea
  cases eb : intsOf ds with
  | none => simp only [nSortSet, eb] at q1; exact q1.elim
  | some ns =>
    simp only [nSortSet, eb] at q1
    have := intsOf_rep rx eb
    subst this
    by_cases z : ns.length < 64
    · rw [if_pos z] at q1
      refine ⟨l, ns, rfl, hx, by omega, fun p c hp hcn => ⟨p, _, c, rfl, upd_same, by omega, fun ms p2 h1 h2 h3 hp2 => ?_⟩⟩
      have e := sortSet_of (ns := ns) h1 fun k => by rw [h2]; simp
      subst e
      exact q1 _ A1 O1 _ (.new hp) (s1.new hp) (reps_nums _) p2 hp2
    · rw [if_neg z] at q1
      exact q1.elim
end
end Wd

namespace Wd
open PySem PySem.Spec PyProof.Rows L2
/-! ### min(numbers), max(numbers) -/
def mnL (n : Int) (ns : List Int) : Int := ns.foldl (fun a b => if b < a then b else a) n
def mxL (n : Int) (ns : List Int) : Int := ns.foldl (fun a b => if a < b then b else a) n
theorem mnL_spec : ∀ (ns : List Int) (n : Int), mnL n ns ∈ n :: ns ∧ ∀ y ∈ n :: ns, mnL n ns ≤ y
  | [], n => ⟨List.mem_singleton.mpr rfl, fun y hy => by rw [List.mem_singleton] at hy; rw [hy]; exact Int.le_refl _⟩
  | b :: ns, n => by
    obtain ⟨h1, h2⟩ := mnL_spec ns (if b < n then b else n)
    have e : mnL n (b :: ns) = mnL (if b < n then b else n) ns := rfl
    rw [e]
    refine ⟨?_, fun y hy => ?_⟩
    · rcases List.mem_cons.mp h1 with z | z
      · rw [z]
        split <;> simp
      · exact List.mem_cons_of_mem _ (List.mem_cons_of_mem _ z)
    · have h3 := h2 _ (List.mem_cons_self ..)
      rcases List.mem_cons.mp hy with z | z
      · subst z
        split at h3 <;> split <;> omega
      · rcases List.mem_cons.mp z with z | z
        · subst z
          split at h3 <;> split <;> omega
        · exact h2 y (List.mem_cons_of_mem _ z)
theorem mxL_spec : ∀ (ns : List Int) (n : Int), mxL n ns ∈ n :: ns ∧ ∀ y ∈ n :: ns, y ≤ mxL n ns
  | [], n => ⟨List.mem_singleton.mpr rfl, fun y hy => by rw [List.mem_singleton] at hy; rw [hy]; exact Int.le_refl _⟩
  | b :: ns, n => by
    obtain ⟨h1, h2⟩ := mxL_spec ns (if n < b then b else n)
    have e : mxL n (b :: ns) = mxL (if n < b then b else n) ns := rfl
    rw [e]
    refine ⟨?_, fun y hy => ?_⟩
    · rcases List.mem_cons.mp h1 with z | z
      · rw [z]
        split <;> simp
      · exact List.mem_cons_of_mem _ (List.mem_cons_of_mem _ z)
    · have h3 := h2 _ (List.mem_cons_self ..)
      rcases List.mem_cons.mp hy with z | z
      · subst z
        split at h3 <;> split <;> omega
      · rcases List.mem_cons.mp z with z | z
        · subst z
          split at h3 <;> split <;> omega
        · exact h2 y (List.mem_cons_of_mem _ z)
def oMinL (ds : List D) (m : Ms) : Res D := match intsOf ds with
  | some (n :: ns) => .ok (.int (mnL n ns)) m
  | _ => .stuck
def oMaxL (ds : List D) (m : Ms) : Res D := match intsOf ds with
  | some (n :: ns) => .ok (.int (mxL n ns)) m
  | _ => .stuck
section
variable {X : Cx} {W : WX} {a : Expr} {fq : Ms → Res (List D)}
theorem de_minL {p pos : Pos} (hc : X.calm = true) (hm : X.mg "min" = none) (ha : DL X W a fq) (hg : Gl X "min" := by rfl) (he : starEach [a] X.env = (false, eval a X.env) :: starEach [] X.env := by rfl) : DE X W (.Call (.Name "min" p) [a] [] pos) (e1q oMinL fq) := by
  refine PE.imp (pe_callB (cr_min hc) hg hm boot_min (pa_cons ha pa_nil he) (by decide) (by decide) he rfl) fun σ H Q ⟨Z, A, O, m, s, q⟩ => ⟨Z, A, O, m, s, RP.bind q fun v ds m1 A1 O1 H1 ev s1 ⟨l, xs, ea, hx, rx⟩ q1 => ?_⟩
  subst ea
  cases eb : intsOf ds with
  | none => simp only [oMinL, eb] at q1; exact q1.elim
  | some ns =>
    cases ns with
    | nil => simp only [oMinL, eb] at q1; exact q1.elim
    | cons n ns =>
      simp only [oMinL, eb] at q1
      have := intsOf_rep rx eb
      subst this
      obtain ⟨h1, h2⟩ := mnL_spec ns n
      refine ⟨l, n :: ns, rfl, hx, by simp, fun k hk hl => ?_⟩
      have e : k = mnL n ns := Int.le_antisymm (hl _ h1) (h2 _ hk)
      rw [e]
      exact q1.ret s1 (.int _)
theorem de_maxL {p pos : Pos} (hc : X.calm = true) (hm : X.mg "max" = none) (ha : DL X W a fq) (hg : Gl X "max" := by rfl) (he : starEach [a] X.env = (false, eval a X.env) :: starEach [] X.env := by rfl) : DE X W (.Call (.Name "max" p) [a] [] pos) (e1q oMaxL fq) := by
  refine PE.imp (pe_callB (cr_max hc) hg hm boot_max (pa_cons ha pa_nil he) (by decide) (by decide) he rfl) fun σ H Q ⟨Z, A, O, m, s, q⟩ => ⟨Z, A, O, m, s, RP.bind q fun v ds m1 A1 O1 H1 ev s1 ⟨l, xs, ea, hx, rx⟩ q1 => ?_⟩
  subst ea
  cases eb : intsOf ds with
  | none => simp only [oMaxL, eb] at q1; exact q1.elim
  | some ns =>
    cases ns with
    | nil => simp only [oMaxL, eb] at q1; exact q1.elim
    | cons n ns =>
      simp only [oMaxL, eb] at q1
      have := intsOf_rep rx eb
      subst this
      obtain ⟨h1, h2⟩ := mxL_spec ns n
      refine ⟨l, n :: ns, rfl, hx, by simp, fun k hk hl => ?_⟩
      have e : k = mxL n ns := Int.le_antisymm (h2 _ hk) (hl _ h1)
      rw [e]
      exact q1.ret s1 (.int _)
end
end Wd

/-! Evaluation: equations by which simp reckons what the functions over data give; no lambda stands where simp would look into it. -/
namespace Wd
open PySem PySem.Spec PyProof.Rows L2
variable {α β : Type} {m : Ms} {r : List Sl} {S : Store} {x : Ex} {i j : Nat}
@[simp] theorem bind_ok {a : α} {k : α → Ms → Res β} : (Res.ok a m).bind k = k a m := (rfl)
@[simp] theorem bind_exc {k : α → Ms → Res β} : (Res.exc x m : Res α).bind k = .exc x m := (rfl)
@[simp] theorem bind_stuck {k : α → Ms → Res β} : (Res.stuck : Res α).bind k = .stuck := (rfl)
@[simp] theorem sb_ok {a : α} {k : α → Ms → SR} : (Res.ok a m).sb k = k a m := (rfl)
@[simp] theorem sb_exc {k : α → Ms → SR} : (Res.exc x m : Res α).sb k = .exc x m := (rfl)
@[simp] theorem sb_stuck {k : α → Ms → SR} : (Res.stuck : Res α).sb k = .stuck := (rfl)
@[simp] theorem srb_next {k : Ms → SR} : (SR.next m).bind k = k m := (rfl)
@[simp] theorem srb_ret {d : D} {k : Ms → SR} : (SR.ret d m).bind k = .ret d m := (rfl)
@[simp] theorem srb_exc {k : Ms → SR} : (SR.exc x m).bind k = .exc x m := (rfl)
@[simp] theorem srb_brk {k : Ms → SR} : (SR.brk m).bind k = .brk m := (rfl)
@[simp] theorem srb_cnt {k : Ms → SR} : (SR.cnt m).bind k = .cnt m := (rfl)
@[simp] theorem srb_stuck {k : Ms → SR} : SR.stuck.bind k = .stuck := (rfl)
@[simp] theorem noX_ok {a : α} : (Res.ok a m).noX = .ok a m := (rfl)
/-! names -/
def getV (i : Nat) (m : Ms) : Option Sl → Res D
  | some (.val d) => .ok d m
  | some (.own ds) => .ok (.lst ds) ⟨m.r.set i (.val (.lst ds)), m.S⟩
  | _ => .stuck
@[simp] theorem ev_eVar : eVar i ⟨r, S⟩ = getV i ⟨r, S⟩ r[i]? := by
  unfold eVar getV
  rfl
@[simp] theorem getV_val {d : D} : getV i m (some (.val d)) = .ok d m := (rfl)
@[simp] theorem getV_own {ds : List D} : getV i m (some (.own ds)) = .ok (.lst ds) ⟨m.r.set i (.val (.lst ds)), m.S⟩ := (rfl)
def getB (m : Ms) : Option Sl → Res D
  | some (.val d) => .ok d m
  | some (.own ds) => .ok (.lst ds) m
  | _ => .stuck
@[simp] theorem ev_eBor : eBor i ⟨r, S⟩ = getB ⟨r, S⟩ r[i]? := by
  unfold eBor getB
  rfl
@[simp] theorem getB_val {d : D} : getB m (some (.val d)) = .ok d m := (rfl)
@[simp] theorem getB_own {ds : List D} : getB m (some (.own ds)) = .ok (.lst ds) m := (rfl)
@[simp] theorem ev_eC {d : D} : eC d m = .ok d m := (rfl)
def locK (m : Ms) : Option SO → Res (List D)
  | some (.lst ds) => .ok ds m
  | none => .stuck
@[simp] theorem locK_some {ds : List D} : locK m (some (.lst ds)) = .ok ds m := (rfl)
@[simp] theorem ev_items_tup {ds : List D} : itemsOf (.tup ds) m = .ok ds m := (rfl)
@[simp] theorem ev_items_lst {ds : List D} : itemsOf (.lst ds) m = .ok ds m := (rfl)
@[simp] theorem ev_items_ro {ds : List D} : itemsOf (.ro ds) m = .ok ds m := (rfl)
@[simp] theorem ev_items_loc {n : Nat} : itemsOf (.loc n) ⟨r, S⟩ = locK ⟨r, S⟩ S[n]? := by
  unfold itemsOf locK
  rfl
@[simp] theorem ev_it_tup {ds : List D} : itOf (.tup ds) m = .ok ds m := (rfl)
@[simp] theorem ev_it_lst {ds : List D} : itOf (.lst ds) m = .ok ds m := (rfl)
@[simp] theorem ev_it_ro {ds : List D} : itOf (.ro ds) m = .ok ds m := (rfl)
@[simp] theorem ev_it_str {z : Str} : itOf (.str z) m = .ok (signs z) m := (rfl)
@[simp] theorem ev_lst_lst {ds : List D} : lstOf (.lst ds) m = .ok ds m := (rfl)
@[simp] theorem ev_lst_ro {ds : List D} : lstOf (.ro ds) m = .ok ds m := (rfl)
@[simp] theorem ev_lst_loc {n : Nat} : lstOf (.loc n) ⟨r, S⟩ = locK ⟨r, S⟩ S[n]? := by
  unfold lstOf itemsOf locK
  rfl
section
variable {f f' g h : Ms → Res D} {fq fs : Ms → Res (List D)} {d y : D} {ds : List D} {b : Bool}
@[simp] theorem ev_qOf : qOf f m = (f m).bind itemsOf := (rfl)
def eNewb (ds : List D) (m : Ms) : Res D := .ok (.lst ds) m
@[simp] theorem ev_eNew : eNew fq m = (fq m).bind eNewb := (rfl)
@[simp] theorem ev_eNewb : eNewb ds m = .ok (.lst ds) m := (rfl)
def e2b (g : D → D → Ms → Res D) (f' : Ms → Res D) (x : D) (m : Ms) : Res D := (f' m).bind (g x)
@[simp] theorem ev_e2 {g : D → D → Ms → Res D} : e2 g f f' m = (f m).bind (e2b g f') := (rfl)
@[simp] theorem ev_e2b {g : D → D → Ms → Res D} : e2b g f' d m = (f' m).bind (g d) := (rfl)
def e2Vc (g : D → D → Ms → Res D) (y : D) (m : Ms) : Option Sl → Res D
  | some (.val d) => g d y m
  | some (.own ds) => g (.lst ds) y m
  | _ => .stuck
def e2Vb (g : D → D → Ms → Res D) (i : Nat) (y : D) (m : Ms) : Res D := e2Vc g y m m.r[i]?
def e2Vk (v : Res D) : Option Sl → Res D
  | some (.val _) => v
  | some (.own _) => v
  | _ => .stuck
@[simp] theorem ev_e2V {g : D → D → Ms → Res D} : e2V g i f' ⟨r, S⟩ = e2Vk ((f' ⟨r, S⟩).bind (e2Vb g i)) r[i]? := by
  unfold e2V e2Vk
  show (match r[i]? with
    | none => Res.stuck
    | some .un => .stuck
    | some _ => _) = _
  cases r[i]? with
  | none => rfl
  | some o => cases o <;> rfl
@[simp] theorem ev_e2Vk_val {v : Res D} : e2Vk v (some (.val d)) = v := (rfl)
@[simp] theorem ev_e2Vk_own {v : Res D} : e2Vk v (some (.own ds)) = v := (rfl)
@[simp] theorem ev_e2Vb {g : D → D → Ms → Res D} : e2Vb g i y ⟨r, S⟩ = e2Vc g y ⟨r, S⟩ r[i]? := (rfl)
@[simp] theorem ev_e2Vc_val {g : D → D → Ms → Res D} : e2Vc g y m (some (.val d)) = g d y m := (rfl)
@[simp] theorem ev_e2Vc_own {g : D → D → Ms → Res D} : e2Vc g y m (some (.own ds)) = g (.lst ds) y m := (rfl)
@[simp] theorem ev_asB : asB (.bl b) m = .ok b m := (rfl)
@[simp] theorem ev_tOf : tOf f m = (f m).bind asB := (rfl)
/-! operators -/
@[simp] theorem ev_add_int {a c : Int} : oAdd (.int a) (.int c) m = .ok (.int (a + c)) m := (rfl)
@[simp] theorem ev_add_str {a c : Str} : oAdd (.str a) (.str c) m = if a.length + c.length ≤ 16777216 then .ok (.str (a ++ c)) m else .stuck := (rfl)
@[simp] theorem ev_add_tup {a c : List D} : oAdd (.tup a) (.tup c) m = if a.length + c.length ≤ 16777216 then .ok (.tup (a ++ c)) m else .stuck := (rfl)
@[simp] theorem ev_sub {a c : Int} : oSub (.int a) (.int c) m = .ok (.int (a - c)) m := (rfl)
@[simp] theorem ev_mul {a c : Int} : oMul (.int a) (.int c) m = if (-18446744073709551616 < a ∧ a < 18446744073709551616) ∨ (-18446744073709551616 < c ∧ c < 18446744073709551616) then .ok (.int (a * c)) m else .stuck := (rfl)
@[simp] theorem ev_div {a c : Int} : oDiv (.int a) (.int c) m = if 0 < c ∧ c < 1073741824 then .ok (.int (a / c)) m else .stuck := (rfl)
@[simp] theorem ev_mod {a c : Int} : oMod (.int a) (.int c) m = if 0 < c then .ok (.int (a % c)) m else .stuck := (rfl)
@[simp] theorem ev_pow {a c : Int} : oPow (.int a) (.int c) m = if 0 ≤ c ∧ c ≤ 1000000 ∧ a.natAbs < 18446744073709551616 then .ok (.int (a ^ c.toNat)) m else .stuck := (rfl)
@[simp] theorem ev_lt {a c : Int} : oLt (.int a) (.int c) m = .ok (.bl (decide (a < c))) m := (rfl)
@[simp] theorem ev_le {a c : Int} : oLe (.int a) (.int c) m = .ok (.bl (decide (a ≤ c))) m := (rfl)
@[simp] theorem ev_gt {a c : Int} : oGt (.int a) (.int c) m = .ok (.bl (decide (c < a))) m := (rfl)
@[simp] theorem ev_ge {a c : Int} : oGe (.int a) (.int c) m = .ok (.bl (decide (c ≤ a))) m := (rfl)
@[simp] theorem ev_neg {a : Int} : oNeg (.int a) m = .ok (.int (-a)) m := (rfl)
@[simp] theorem ev_isN_non {neg : Bool} : oIsN neg .non .non m = .ok (.bl (!neg)) m := (rfl)
@[simp] theorem ev_isN_int {neg : Bool} {a : Int} : oIsN neg (.int a) .non m = .ok (.bl neg) m := (rfl)
@[simp] theorem ev_isN_bl {neg : Bool} {a : Bool} : oIsN neg (.bl a) .non m = .ok (.bl neg) m := (rfl)
@[simp] theorem ev_isN_str {neg : Bool} {a : Str} : oIsN neg (.str a) .non m = .ok (.bl neg) m := (rfl)
@[simp] theorem ev_isN_tup {neg : Bool} {a : List D} : oIsN neg (.tup a) .non m = .ok (.bl neg) m := (rfl)
@[simp] theorem ev_isN_lst {neg : Bool} {a : List D} : oIsN neg (.lst a) .non m = .ok (.bl neg) m := (rfl)
@[simp] theorem ev_isN_ro {neg : Bool} {a : List D} : oIsN neg (.ro a) .non m = .ok (.bl neg) m := (rfl)
@[simp] theorem ev_eq_int {a c : Int} : oEq false (.int a) (.int c) m = .ok (.bl (decide (a = c))) m := (rfl)
@[simp] theorem ev_ne_int {a c : Int} : oEq true (.int a) (.int c) m = .ok (.bl (!decide (a = c))) m := (rfl)
@[simp] theorem ev_eq_str {a c : Str} : oEq false (.str a) (.str c) m = .ok (.bl (decide (a = c))) m := (rfl)
@[simp] theorem ev_ne_str {a c : Str} : oEq true (.str a) (.str c) m = .ok (.bl (!decide (a = c))) m := (rfl)
@[simp] theorem ev_eq_bl {a c : Bool} : oEq false (.bl a) (.bl c) m = .ok (.bl (decide (a = c))) m := (rfl)
@[simp] theorem ev_ne_bl {a c : Bool} : oEq true (.bl a) (.bl c) m = .ok (.bl (!decide (a = c))) m := (rfl)
@[simp] theorem ev_eq_nn : oEq false .non .non m = .ok (.bl true) m := (rfl)
@[simp] theorem ev_ne_nn : oEq true .non .non m = .ok (.bl false) m := (rfl)
@[simp] theorem ev_eq_ni {a : Int} : oEq false .non (.int a) m = .ok (.bl false) m := (rfl)
@[simp] theorem ev_ne_ni {a : Int} : oEq true .non (.int a) m = .ok (.bl true) m := (rfl)
@[simp] theorem ev_eq_in {a : Int} : oEq false (.int a) .non m = .ok (.bl false) m := (rfl)
@[simp] theorem ev_ne_in {a : Int} : oEq true (.int a) .non m = .ok (.bl true) m := (rfl)
@[simp] theorem ev_in_tup {neg : Bool} : oIn neg d (.tup ds) m = if flatD d = true ∧ ds.all flatD = true then .ok (.bl (if neg then !inD d ds else inD d ds)) m else .stuck := by
  unfold oIn
  simp only [itemsOf, Res.bind, lstD, Bool.false_eq_true, and_false, if_false]
@[simp] theorem ev_in_lst {neg : Bool} : oIn neg d (.lst ds) m = if flatD d = true ∧ ds.all flatD = true then .ok (.bl (if neg then !inD d ds else inD d ds)) m else if okEq d = true ∧ okEq (.lst ds) = true then .ok (.bl (if neg then !inDD d ds else inDD d ds)) m else .stuck := by
  unfold oIn
  simp only [itemsOf, Res.bind, lstD, and_true]
@[simp] theorem ev_in_ro {neg : Bool} : oIn neg d (.ro ds) m = if flatD d = true ∧ ds.all flatD = true then .ok (.bl (if neg then !inD d ds else inD d ds)) m else if okEq d = true ∧ okEq (.lst ds) = true then .ok (.bl (if neg then !inDD d ds else inDD d ds)) m else .stuck := by
  unfold oIn
  simp only [itemsOf, Res.bind, lstD, and_true]
@[simp] theorem ev_in_str {neg : Bool} {s z : Str} : oIn neg (.str s) (.str z) m = if s.cps.size = 1 then .ok (.bl (if neg then !decide (s.cps.getD 0 0 ∈ z.cps.toList) else decide (s.cps.getD 0 0 ∈ z.cps.toList))) m else .stuck := (rfl)
@[simp] theorem flat_int {a : Int} : flatD (.int a) = true := (rfl)
@[simp] theorem flat_str {a : Str} : flatD (.str a) = true := (rfl)
@[simp] theorem flat_bl : flatD (.bl b) = true := (rfl)
@[simp] theorem flat_non : flatD .non = true := (rfl)
@[simp] theorem flat_ints {ns : List Int} : (ns.map D.int).all flatD = true := by simp [List.all_map]
@[simp] theorem flat_strs {ns : List Str} : (ns.map D.str).all flatD = true := by simp [List.all_map]
@[simp] theorem inD_ints {a : Int} {ns : List Int} : inD (.int a) (ns.map D.int) = decide (a ∈ ns) := by
  unfold inD
  rw [List.any_map]
  induction ns with
  | nil => rfl
  | cons n ns ih =>
    rw [List.any_cons, ih]
    show ((n == a) || _) = _
    simp only [List.mem_cons, eq_comm (a := a) (b := n)]
    by_cases e : n = a <;> simp [e]
@[simp] theorem inD_strs {a : Str} {ns : List Str} : inD (.str a) (ns.map D.str) = decide (a ∈ ns) := by
  unfold inD
  rw [List.any_map]
  induction ns with
  | nil => rfl
  | cons n ns ih =>
    rw [List.any_cons, ih]
    show ((n == a) || _) = _
    simp only [List.mem_cons, eq_comm (a := a) (b := n)]
    by_cases e : n = a <;> simp [e]
@[simp] theorem inD_nil : inD d [] = false := (rfl)
@[simp] theorem inD_int_cons {a c : Int} : inD (.int a) (.int c :: ds) = (decide (c = a) || inD (.int a) ds) := by
  show ((c == a) || _) = _
  by_cases e : c = a <;> simp [e, inD]
@[simp] theorem inD_str_cons {a c : Str} : inD (.str a) (.str c :: ds) = (decide (c = a) || inD (.str a) ds) := by
  show ((c == a) || _) = _
  by_cases e : c = a <;> simp [e, inD]
def lenK (ds : List D) (m : Ms) : Res D := .ok (.int ds.length) m
@[simp] theorem ev_lenK : lenK ds m = .ok (.int ds.length) m := (rfl)
@[simp] theorem ev_len_tup : oLen (.tup ds) m = .ok (.int ds.length) m := (rfl)
@[simp] theorem ev_len_lst : oLen (.lst ds) m = .ok (.int ds.length) m := (rfl)
@[simp] theorem ev_len_ro : oLen (.ro ds) m = .ok (.int ds.length) m := (rfl)
@[simp] theorem ev_len_loc {n : Nat} : oLen (.loc n) ⟨r, S⟩ = (locK ⟨r, S⟩ S[n]?).bind lenK := by
  unfold oLen itemsOf locK
  rfl
@[simp] theorem ev_len_str {z : Str} : oLen (.str z) m = if z.length ≤ 16777216 then .ok (.int z.length) m else .stuck := (rfl)
def ixK (m : Ms) : Option D → Res D
  | some d => .ok d m
  | none => .stuck
@[simp] theorem ixK_some : ixK m (some d) = .ok d m := (rfl)
def ixL (a : Int) (ds : List D) (m : Ms) : Res D := ixK m (atI ds a)
@[simp] theorem ev_ixL {a : Int} : ixL a ds m = ixK m (atI ds a) := (rfl)
@[simp] theorem ev_ix_tup {a : Int} : oIx (.tup ds) (.int a) m = ixK m (atI ds a) := by
  unfold oIx ixK
  rfl
@[simp] theorem ev_ix_lst {a : Int} : oIx (.lst ds) (.int a) m = ixK m (atI ds a) := by
  unfold oIx ixK
  rfl
@[simp] theorem ev_ix_ro {a : Int} : oIx (.ro ds) (.int a) m = ixK m (atI ds a) := by
  unfold oIx ixK
  rfl
@[simp] theorem ev_ix_loc {a : Int} {n : Nat} : oIx (.loc n) (.int a) ⟨r, S⟩ = (locK ⟨r, S⟩ S[n]?).bind (ixL a) := by
  unfold oIx itemsOf locK
  show ((match S[n]? with
    | some (.lst ds) => Res.ok ds ⟨r, S⟩
    | none => .stuck).bind _) = _
  cases S[n]? with
  | none => rfl
  | some o =>
    cases o with
    | lst ds => unfold ixL ixK; rfl
@[simp] theorem ev_ix_str {a : Int} {z : Str} : oIx (.str z) (.int a) m = if z.length ≤ 16777216 then (match atI z.cps.toList a with
      | some c => .ok (.str ⟨#[c]⟩) m
      | none => .stuck) else .stuck := rfl
@[simp] theorem ev_e1 {g : D → Ms → Res D} : e1 g f m = (f m).bind g := (rfl)
@[simp] theorem ev_e1q {g : List D → Ms → Res D} : e1q g fq m = (fq m).bind g := (rfl)
@[simp] theorem ev_n1q {g : List D → Ms → Res (List D)} : n1q g fq m = (fq m).bind g := (rfl)
@[simp] theorem ev_eCall {g : List D → Ms → Res D} : eCall g fs m = (fs m).bind g := (rfl)
@[simp] theorem ev_isi {ts : List T5} : oIsi ts d m = .ok (.bl (ts.any fun t => isT t d)) m := (rfl)
@[simp] theorem isT_int_int {a : Int} : isT .int (.int a) = true := (rfl)
@[simp] theorem isT_int_bl : isT .int (.bl b) = true := (rfl)
@[simp] theorem isT_int_str {a : Str} : isT .int (.str a) = false := (rfl)
@[simp] theorem isT_int_non : isT .int .non = false := (rfl)
@[simp] theorem isT_int_tup : isT .int (.tup ds) = false := (rfl)
@[simp] theorem isT_int_lst : isT .int (.lst ds) = false := (rfl)
@[simp] theorem isT_int_ro : isT .int (.ro ds) = false := (rfl)
@[simp] theorem isT_bool_int {a : Int} : isT .bool (.int a) = false := (rfl)
@[simp] theorem isT_bool_bl : isT .bool (.bl b) = true := (rfl)
@[simp] theorem isT_bool_str {a : Str} : isT .bool (.str a) = false := (rfl)
@[simp] theorem isT_bool_non : isT .bool .non = false := (rfl)
@[simp] theorem isT_bool_tup : isT .bool (.tup ds) = false := (rfl)
@[simp] theorem isT_bool_lst : isT .bool (.lst ds) = false := (rfl)
@[simp] theorem isT_bool_ro : isT .bool (.ro ds) = false := (rfl)
@[simp] theorem isT_str_int {a : Int} : isT .str (.int a) = false := (rfl)
@[simp] theorem isT_str_bl : isT .str (.bl b) = false := (rfl)
@[simp] theorem isT_str_str {a : Str} : isT .str (.str a) = true := (rfl)
@[simp] theorem isT_str_non : isT .str .non = false := (rfl)
@[simp] theorem isT_str_tup : isT .str (.tup ds) = false := (rfl)
@[simp] theorem isT_str_lst : isT .str (.lst ds) = false := (rfl)
@[simp] theorem isT_str_ro : isT .str (.ro ds) = false := (rfl)
@[simp] theorem isT_list_int {a : Int} : isT .list (.int a) = false := (rfl)
@[simp] theorem isT_list_bl : isT .list (.bl b) = false := (rfl)
@[simp] theorem isT_list_str {a : Str} : isT .list (.str a) = false := (rfl)
@[simp] theorem isT_list_non : isT .list .non = false := (rfl)
@[simp] theorem isT_list_tup : isT .list (.tup ds) = false := (rfl)
@[simp] theorem isT_list_lst : isT .list (.lst ds) = true := (rfl)
@[simp] theorem isT_list_ro : isT .list (.ro ds) = true := (rfl)
@[simp] theorem isT_list_loc {n : Nat} : isT .list (.loc n) = true := (rfl)
@[simp] theorem isT_tuple_int {a : Int} : isT .tuple (.int a) = false := (rfl)
@[simp] theorem isT_tuple_bl : isT .tuple (.bl b) = false := (rfl)
@[simp] theorem isT_tuple_str {a : Str} : isT .tuple (.str a) = false := (rfl)
@[simp] theorem isT_tuple_non : isT .tuple .non = false := (rfl)
@[simp] theorem isT_tuple_tup : isT .tuple (.tup ds) = true := (rfl)
@[simp] theorem isT_tuple_lst : isT .tuple (.lst ds) = false := (rfl)
@[simp] theorem isT_tuple_ro : isT .tuple (.ro ds) = false := (rfl)
@[simp] theorem isT_tuple_loc {n : Nat} : isT .tuple (.loc n) = false := (rfl)
@[simp] theorem ev_cInt_int {a : Int} : cInt [.int a] m = .ok (.int a) m := (rfl)
@[simp] theorem ev_cInt_bl : cInt [.bl b] m = .ok (.int (if b then 1 else 0)) m := (rfl)
def imn (a c : Int) : Int := if c < a then c else a
def imx (a c : Int) : Int := if c > a then c else a
@[simp] theorem ev_cMin {a c : Int} : cMin [.int a, .int c] m = .ok (.int (imn a c)) m := (rfl)
@[simp] theorem ev_cMax {a c : Int} : cMax [.int a, .int c] m = .ok (.int (imx a c)) m := (rfl)
@[simp] theorem ev_tupOf_tup : oTupOf (.tup ds) m = .ok (.tup ds) m := (rfl)
@[simp] theorem ev_tupOf_lst : oTupOf (.lst ds) m = .ok (.tup ds) m := (rfl)
@[simp] theorem ev_tupOf_ro : oTupOf (.ro ds) m = .ok (.tup ds) m := (rfl)
/-! and, or, not -/
def eAndb (g : Ms → Res D) (d : D) (m : Ms) : Res D := match d with
  | .bl b => if b = true then g m else .ok (.bl false) m
  | _ => .stuck
@[simp] theorem ev_eAnd : eAnd f g m = (f m).bind (eAndb g) := (rfl)
@[simp] theorem ev_eAndb_t : eAndb g (.bl true) m = g m := (rfl)
@[simp] theorem ev_eAndb_f : eAndb g (.bl false) m = .ok (.bl false) m := (rfl)
theorem ev_eAndb : eAndb g (.bl b) m = if b = true then g m else .ok (.bl false) m := rfl
def eOrb (g : Ms → Res D) (d : D) (m : Ms) : Res D := match d with
  | .bl b => if b = true then .ok (.bl true) m else g m
  | _ => .stuck
@[simp] theorem ev_eOr : eOr f g m = (f m).bind (eOrb g) := (rfl)
@[simp] theorem ev_eOrb_t : eOrb g (.bl true) m = .ok (.bl true) m := (rfl)
@[simp] theorem ev_eOrb_f : eOrb g (.bl false) m = g m := (rfl)
theorem ev_eOrb : eOrb g (.bl b) m = if b = true then .ok (.bl true) m else g m := rfl
def eNotb (d : D) (m : Ms) : Res D := match d with
  | .bl b => .ok (.bl (!b)) m
  | _ => .stuck
@[simp] theorem ev_eNot : eNot f m = (f m).bind eNotb := (rfl)
@[simp] theorem ev_eNotb : eNotb (.bl b) m = .ok (.bl (!b)) m := (rfl)
section
variable {t u : Ms → Res Bool}
def tAndb (u : Ms → Res Bool) (b : Bool) (m : Ms) : Res Bool := if b = true then u m else .ok false m
@[simp] theorem ev_tAnd : tAndD t u m = (t m).bind (tAndb u) := (rfl)
@[simp] theorem ev_tAndb_t : tAndb u true m = u m := (rfl)
@[simp] theorem ev_tAndb_f : tAndb u false m = .ok false m := (rfl)
theorem ev_tAndb : tAndb u b m = if b = true then u m else .ok false m := rfl
def tOrb (u : Ms → Res Bool) (b : Bool) (m : Ms) : Res Bool := if b = true then .ok true m else u m
@[simp] theorem ev_tOr : tOrD t u m = (t m).bind (tOrb u) := (rfl)
@[simp] theorem ev_tOrb_t : tOrb u true m = .ok true m := (rfl)
@[simp] theorem ev_tOrb_f : tOrb u false m = u m := (rfl)
theorem ev_tOrb : tOrb u b m = if b = true then .ok true m else u m := rfl
def tNotb (b : Bool) (m : Ms) : Res Bool := .ok (!b) m
@[simp] theorem ev_tNot : tNotD t m = (t m).bind tNotb := (rfl)
@[simp] theorem ev_tNotb : tNotb b m = .ok (!b) m := (rfl)
def eIfb (f g : Ms → Res D) (b : Bool) (m : Ms) : Res D := if b = true then f m else g m
@[simp] theorem ev_eIf : eIf t f g m = (t m).bind (eIfb f g) := (rfl)
@[simp] theorem ev_eIfb_t : eIfb f g true m = f m := (rfl)
@[simp] theorem ev_eIfb_f : eIfb f g false m = g m := (rfl)
theorem ev_eIfb : eIfb f g b m = if b = true then f m else g m := rfl
@[simp] theorem ev_tYes : tYesD m = .ok true m := (rfl)
@[simp] theorem ev_tTru : tTru f m = (f m).bind oTru := (rfl)
@[simp] theorem ev_tru_lst : oTru (.lst ds) m = .ok (!ds.isEmpty) m := (rfl)
@[simp] theorem ev_tru_tup : oTru (.tup ds) m = .ok (!ds.isEmpty) m := (rfl)
@[simp] theorem ev_tru_ro : oTru (.ro ds) m = .ok (!ds.isEmpty) m := (rfl)
@[simp] theorem ev_tru_bl : oTru (.bl b) m = .ok b m := (rfl)
@[simp] theorem ev_tru_int {a : Int} : oTru (.int a) m = .ok (a != 0) m := (rfl)
@[simp] theorem ev_tru_non : oTru .non m = .ok false m := (rfl)
end
def ch3 (k' : D → D → Ms → Res D) (h : Ms → Res D) (y z : D) (m : Ms) : Res D := match z with
  | .bl b => if b = true then (h m).bind (k' y) else .ok (.bl false) m
  | _ => .stuck
def ch2 (k k' : D → D → Ms → Res D) (h : Ms → Res D) (x y : D) (m : Ms) : Res D := (k x y m).bind (ch3 k' h y)
def ch1 (k k' : D → D → Ms → Res D) (g h : Ms → Res D) (x : D) (m : Ms) : Res D := (g m).bind (ch2 k k' h x)
section
variable {k k' : D → D → Ms → Res D}
@[simp] theorem ev_eChain : eChain k k' f g h m = (f m).bind (ch1 k k' g h) := (rfl)
@[simp] theorem ev_ch1 : ch1 k k' g h d m = (g m).bind (ch2 k k' h d) := (rfl)
@[simp] theorem ev_ch2 : ch2 k k' h d y m = (k d y m).bind (ch3 k' h y) := (rfl)
@[simp] theorem ev_ch3_t : ch3 k' h y (.bl true) m = (h m).bind (k' y) := (rfl)
@[simp] theorem ev_ch3_f : ch3 k' h y (.bl false) m = .ok (.bl false) m := (rfl)
theorem ev_ch3 : ch3 k' h y (.bl b) m = if b = true then (h m).bind (k' y) else .ok (.bl false) m := rfl
end
/-! rows of expressions -/
@[simp] theorem ev_aNil : aNil m = .ok [] m := (rfl)
def aConsc (d : D) (ds : List D) (m : Ms) : Res (List D) := .ok (d :: ds) m
def aConsb (fs : Ms → Res (List D)) (d : D) (m : Ms) : Res (List D) := (fs m).bind (aConsc d)
@[simp] theorem ev_aCons : aCons f fs m = (f m).bind (aConsb fs) := (rfl)
@[simp] theorem ev_aConsb : aConsb fs d m = (fs m).bind (aConsc d) := (rfl)
@[simp] theorem ev_aConsc : aConsc d ds m = .ok (d :: ds) m := (rfl)
def aStarc (es : List D) (ds : List D) (m : Ms) : Res (List D) := .ok (es ++ ds) m
def aStarb (fs : Ms → Res (List D)) (es : List D) (m : Ms) : Res (List D) := (fs m).bind (aStarc es)
@[simp] theorem ev_aStar : aStar fq fs m = (fq m).bind (aStarb fs) := (rfl)
@[simp] theorem ev_aStarb {es : List D} : aStarb fs es m = (fs m).bind (aStarc es) := (rfl)
@[simp] theorem ev_aStarc {es : List D} : aStarc es ds m = .ok (es ++ ds) m := (rfl)
def eTupb (ds : List D) (m : Ms) : Res D := if ds.length ≤ 16777216 then .ok (.tup ds) m else .stuck
@[simp] theorem ev_eTup : eTup fs m = (fs m).bind eTupb := (rfl)
@[simp] theorem ev_eTupb : eTupb ds m = if ds.length ≤ 16777216 then .ok (.tup ds) m else .stuck := (rfl)
def nLstb (ds : List D) (m : Ms) : Res (List D) := if ds.length ≤ 16777216 then .ok ds m else .stuck
@[simp] theorem ev_nLst : nLst fs m = (fs m).bind nLstb := (rfl)
@[simp] theorem ev_nLstb : nLstb ds m = if ds.length ≤ 16777216 then .ok ds m else .stuck := (rfl)
/-! slices -/
@[simp] theorem ev_pNone : pNone m = .ok none m := (rfl)
def pSomeb (d : D) (m : Ms) : Res (Option Int) := match d with
  | .int i => .ok (some i) m
  | _ => .stuck
@[simp] theorem ev_pSome : pSome f m = (f m).bind pSomeb := (rfl)
@[simp] theorem ev_pSomeb {a : Int} : pSomeb (.int a) m = .ok (some a) m := (rfl)
def eSlc (u : Ms → Res (Option Int)) (x : D) (lo : Option Int) (m : Ms) : Res D := (u m).bind (oSl x lo)
def eSlb (l u : Ms → Res (Option Int)) (x : D) (m : Ms) : Res D := (l m).bind (eSlc u x)
section
variable {l u : Ms → Res (Option Int)} {lo hi : Option Int}
@[simp] theorem ev_eSl : eSl f l u m = (f m).bind (eSlb l u) := (rfl)
@[simp] theorem ev_eSlb : eSlb l u d m = (l m).bind (eSlc u d) := (rfl)
@[simp] theorem ev_eSlc : eSlc u d lo m = (u m).bind (oSl d lo) := (rfl)
@[simp] theorem ev_oSl_tup : oSl (.tup ds) lo hi m = .ok (.tup (cutL ds lo hi)) m := (rfl)
@[simp] theorem ev_oSl_lst : oSl (.lst ds) lo hi m = .ok (.lst (cutL ds lo hi)) m := (rfl)
@[simp] theorem ev_oSl_ro : oSl (.ro ds) lo hi m = .ok (.lst (cutL ds lo hi)) m := (rfl)
@[simp] theorem ev_oSl_str {z : Str} : oSl (.str z) lo hi m = if z.length ≤ 16777216 then .ok (.str (cutS z lo hi)) m else .stuck := (rfl)
end
theorem sIx_pos {n d : Nat} {a : Int} (h : 0 ≤ a) : HT.sIx n d (some a) = min a.toNat n := by
  show (if a < 0 then (a + (n : Int)).toNat else min a.toNat n) = min a.toNat n
  rw [if_neg (by omega)]
theorem cutL_take {xs : List α} {n : Int} (h : 0 ≤ n) : cutL xs none (some n) = xs.take n.toNat := by
  show (xs.drop 0).take (HT.sIx xs.length xs.length (some n) - 0) = _
  rw [sIx_pos h, List.drop_zero, Nat.sub_zero]
  rcases Nat.le_total n.toNat xs.length with h1 | h1
  · rw [Nat.min_eq_left h1]
  · rw [Nat.min_eq_right h1, List.take_of_length_le (Nat.le_refl _), List.take_of_length_le h1]
theorem cutL_drop {xs : List α} {n : Int} (h : 0 ≤ n) : cutL xs (some n) none = xs.drop n.toNat := by
  show (xs.drop (HT.sIx xs.length 0 (some n))).take (xs.length - HT.sIx xs.length 0 (some n)) = _
  rw [sIx_pos h]
  rcases Nat.le_total n.toNat xs.length with h1 | h1
  · rw [Nat.min_eq_left h1, List.take_of_length_le (by simp)]
  · rw [Nat.min_eq_right h1, List.drop_of_length_le h1, List.drop_of_length_le (Nat.le_refl _), List.take_nil]
theorem cutL_map {γ : Type} {k : α → γ} {xs : List α} {lo hi : Option Int} : cutL (xs.map k) lo hi = (cutL xs lo hi).map k := by
  unfold cutL
  rw [List.length_map, List.map_take, List.map_drop]
/-! lists -/
@[simp] theorem blsOf_map {bs : List Bool} : blsOf (bs.map D.bl) = some bs := by
  induction bs with
  | nil => rfl
  | cons b bs ih => show (blsOf (bs.map D.bl)).map _ = _; rw [ih]; rfl
@[simp] theorem intsOf_map {ns : List Int} : intsOf (ns.map D.int) = some ns := by
  induction ns with
  | nil => rfl
  | cons b bs ih => show (intsOf (bs.map D.int)).map _ = _; rw [ih]; rfl
@[simp] theorem ev_all {bs : List Bool} : oAll (bs.map D.bl) m = .ok (.bl (bs.all id)) m := by
  unfold oAll
  rw [blsOf_map]
@[simp] theorem ev_any {bs : List Bool} : oAny (bs.map D.bl) m = .ok (.bl (bs.any id)) m := by
  unfold oAny
  rw [blsOf_map]
theorem ev_all_map {k : α → Bool} {xs : List α} : oAll (xs.map fun a => D.bl (k a)) m = .ok (.bl (xs.all k)) m := by
  have := ev_all (m := m) (bs := xs.map k)
  rw [List.map_map, List.all_map] at this
  exact this
theorem ev_any_map {k : α → Bool} {xs : List α} : oAny (xs.map fun a => D.bl (k a)) m = .ok (.bl (xs.any k)) m := by
  have := ev_any (m := m) (bs := xs.map k)
  rw [List.map_map, List.any_map] at this
  exact this
@[simp] theorem ev_sortI {ns : List Int} : nSortI (ns.map D.int) m = .ok ((sortI ns).map D.int) m := by
  unfold nSortI
  rw [intsOf_map]
def nRg1b (d : D) (m : Ms) : Res (List D) := match d with
  | .int n => if -1000000 ≤ n ∧ n ≤ 1000000 then .ok (rgD 0 n) m else .stuck
  | _ => .stuck
@[simp] theorem ev_nRg1 : nRg1 f m = (f m).bind nRg1b := (rfl)
@[simp] theorem ev_nRg1b {a : Int} : nRg1b (.int a) m = if -1000000 ≤ a ∧ a ≤ 1000000 then .ok (rgD 0 a) m else .stuck := (rfl)
def rg1b (ds : List D) (m : Ms) : Res (List D) := match ds with
  | [.int n] => if -1000000000 ≤ n ∧ n ≤ 1000000000 then .ok (rgD 0 n) m else .stuck
  | _ => .stuck
@[simp] theorem ev_rg1 : rg1 fs m = (fs m).bind rg1b := (rfl)
@[simp] theorem ev_rg1b {a : Int} : rg1b [.int a] m = if -1000000000 ≤ a ∧ a ≤ 1000000000 then .ok (rgD 0 a) m else .stuck := (rfl)
def rg2b (ds : List D) (m : Ms) : Res (List D) := match ds with
  | [.int a, .int n] => if (-1000000000 ≤ a ∧ a ≤ 1000000000) ∧ (-1000000000 ≤ n ∧ n ≤ 1000000000) then .ok (rgD a n) m else .stuck
  | _ => .stuck
@[simp] theorem ev_rg2 : rg2 fs m = (fs m).bind rg2b := (rfl)
@[simp] theorem ev_rg2b {a c : Int} : rg2b [.int a, .int c] m = if (-1000000000 ≤ a ∧ a ≤ 1000000000) ∧ (-1000000000 ≤ c ∧ c ≤ 1000000000) then .ok (rgD a c) m else .stuck := (rfl)
@[simp] theorem ev_itE : itE f m = (f m).bind itOf := (rfl)
def enEc (ds : List D) (m : Ms) : Res (List D) := .ok (enL 0 ds) m
@[simp] theorem ev_itSq_tup {ds : List D} : itSq (.tup ds) m = .ok ds m := (rfl)
@[simp] theorem ev_itSq_lst {ds : List D} : itSq (.lst ds) m = .ok ds m := (rfl)
@[simp] theorem ev_itSq_ro {ds : List D} : itSq (.ro ds) m = .ok ds m := (rfl)
def enEb (d : D) (m : Ms) : Res (List D) := (itSq d m).bind enEc
@[simp] theorem ev_enE : enE f m = (f m).bind enEb := (rfl)
@[simp] theorem ev_enEb : enEb d m = (itSq d m).bind enEc := (rfl)
@[simp] theorem ev_enEc : enEc ds m = .ok (enL 0 ds) m := (rfl)
@[simp] theorem loV_lst : loV (.lst ds) m = some ds := (rfl)
def loL : Option SO → Option (List D)
  | some (.lst ds) => some ds
  | none => none
@[simp] theorem loL_some : loL (some (.lst ds)) = some ds := (rfl)
@[simp] theorem loV_loc {n : Nat} : loV (.loc n) ⟨r, S⟩ = loL S[n]? := by
  unfold loV loL
  rfl
def oOk (m : Ms) : Option (List D) → Res (List D)
  | some ds => .ok ds m
  | none => .stuck
@[simp] theorem oOk_some : oOk m (some ds) = .ok ds m := (rfl)
def qLob (d : D) (m : Ms) : Res (List D) := oOk m (loV d m)
@[simp] theorem ev_qLo : qLo f m = (f m).bind qLob := by
  unfold qLo qLob oOk
  rfl
@[simp] theorem ev_qLob : qLob d m = oOk m (loV d m) := (rfl)
def catK (ys : List D) (m : Ms) : Option (List D) → Res (List D)
  | some xs => cat2 xs ys m
  | none => .stuck
@[simp] theorem catK_some {ys : List D} : catK ys m (some ds) = cat2 ds ys m := (rfl)
@[simp] theorem ev_cat2 {ys : List D} : cat2 ds ys m = if ds.length + ys.length ≤ 16777216 then .ok (ds ++ ys) m else .stuck := (rfl)
def nCatc (x : D) (ys : List D) (m : Ms) : Res (List D) := catK ys m (loV x m)
def nCatb (fy : Ms → Res (List D)) (x : D) (m : Ms) : Res (List D) := (fy m).bind (nCatc x)
@[simp] theorem ev_nCat : nCat f fq m = (f m).bind (nCatb fq) := by
  unfold nCat nCatb nCatc catK
  rfl
@[simp] theorem ev_nCatb : nCatb fq d m = (fq m).bind (nCatc d) := (rfl)
@[simp] theorem ev_nCatc {ys : List D} : nCatc d ys m = catK ys m (loV d m) := (rfl)
def nCatVc (ys : List D) (m : Ms) : Option Sl → Res (List D)
  | some (.val d) => catK ys m (loV d m)
  | some (.own xs) => cat2 xs ys m
  | _ => .stuck
def nCatVb (i : Nat) (ys : List D) (m : Ms) : Res (List D) := nCatVc ys m m.r[i]?
def vk (v : Res (List D)) : Option Sl → Res (List D)
  | some (.val _) => v
  | some (.own _) => v
  | _ => .stuck
@[simp] theorem vk_val {v : Res (List D)} : vk v (some (.val d)) = v := (rfl)
@[simp] theorem vk_own {v : Res (List D)} : vk v (some (.own ds)) = v := (rfl)
@[simp] theorem ev_nCatV : nCatV i fq ⟨r, S⟩ = vk ((fq ⟨r, S⟩).bind (nCatVb i)) r[i]? := by
  have key : ∀ ys m1, nCatVb i ys m1 = (match m1.r[i]? with
    | some (.val d) => (match loV d m1 with
      | some xs => cat2 xs ys m1
      | none => .stuck)
    | some (.own xs) => cat2 xs ys m1
    | _ => .stuck) := fun ys m1 => by
      unfold nCatVb nCatVc catK
      rfl
  have : nCatVb i = fun ys m1 => (match m1.r[i]? with
    | some (.val d) => (match loV d m1 with
      | some xs => cat2 xs ys m1
      | none => .stuck)
    | some (.own xs) => cat2 xs ys m1
    | _ => .stuck) := by
      funext ys m1
      exact key ys m1
  rw [this]
  unfold nCatV vk
  show (match r[i]? with
    | none => Res.stuck
    | some .un => .stuck
    | some _ => _) = _
  cases r[i]? with
  | none => rfl
  | some o => cases o <;> rfl
@[simp] theorem ev_nCatVb {ys : List D} : nCatVb i ys ⟨r, S⟩ = nCatVc ys ⟨r, S⟩ r[i]? := (rfl)
@[simp] theorem ev_nCatVc_val {ys : List D} : nCatVc ys m (some (.val d)) = catK ys m (loV d m) := (rfl)
@[simp] theorem ev_nCatVc_own {ys : List D} : nCatVc ys m (some (.own ds)) = cat2 ds ys m := (rfl)
/-! lists that change -/
section
variable {k : List D → Option (D × List D)} {g2 : List D → List D → Option (D × List D)} {args : List D}
def chgK (i : Nat) (m : Ms) : Option (D × List D) → Res D
  | some (d, es) => .ok d ⟨m.r.set i (.own es), m.S⟩
  | none => .stuck
def chgL (n : Nat) (m : Ms) : Option (D × List D) → Res D
  | some (d, es) => .ok d ⟨m.r, m.S.set n (.lst es)⟩
  | none => .stuck
def chgO (n : Nat) (k : List D → Option (D × List D)) (m : Ms) : Option SO → Res D
  | some (.lst ds) => chgL n m (k ds)
  | none => .stuck
def chgS (i : Nat) (k : List D → Option (D × List D)) (m : Ms) : Option Sl → Res D
  | some (.own ds) => chgK i m (k ds)
  | some (.val (.loc n)) => chgO n k m m.S[n]?
  | _ => .stuck
@[simp] theorem ev_chg : chg i k ⟨r, S⟩ = chgS i k ⟨r, S⟩ r[i]? := by
  unfold chg chgS chgK chgO chgL
  rfl
@[simp] theorem chgS_own : chgS i k m (some (.own ds)) = chgK i m (k ds) := (rfl)
@[simp] theorem chgS_loc {n : Nat} : chgS i k ⟨r, S⟩ (some (.val (.loc n))) = chgO n k ⟨r, S⟩ S[n]? := (rfl)
@[simp] theorem chgO_some {n : Nat} : chgO n k m (some (.lst ds)) = chgL n m (k ds) := (rfl)
@[simp] theorem chgK_some : chgK i ⟨r, S⟩ (some (d, ds)) = .ok d ⟨r.set i (.own ds), S⟩ := (rfl)
@[simp] theorem chgL_some {n : Nat} : chgL n ⟨r, S⟩ (some (d, ds)) = .ok d ⟨r, S.set n (.lst ds)⟩ := (rfl)
def canS : Option Sl → Bool
  | some (.own _) => true
  | some (.val (.loc _)) => true
  | _ => false
@[simp] theorem ev_canChg : canChg i ⟨r, S⟩ = canS r[i]? := by
  unfold canChg canS
  rfl
@[simp] theorem canS_own : canS (some (.own ds)) = true := (rfl)
@[simp] theorem canS_loc {n : Nat} : canS (some (.val (.loc n))) = true := (rfl)
def eMutb (i : Nat) (g : List D → List D → Option (D × List D)) (args : List D) (m : Ms) : Res D := chg i (g args) m
@[simp] theorem ev_eMut : eMut i g2 fs m = if canChg i m = true then (fs m).bind (eMutb i g2) else .stuck := (rfl)
@[simp] theorem ev_eMutb : eMutb i g2 args m = chg i (g2 args) m := (rfl)
@[simp] theorem ev_kAppend : kAppend [d] ds = if ds.length < 16777216 then some (.non, ds ++ [d]) else none := (rfl)
def popK (ds : List D) : Option D → Option (D × List D)
  | some d => some (d, ds.dropLast)
  | none => none
@[simp] theorem popK_some : popK ds (some d) = some (d, ds.dropLast) := (rfl)
@[simp] theorem ev_kPop : kPop [] ds = popK ds ds[ds.length - 1]? := by
  unfold kPop popK
  cases ds[ds.length - 1]? <;> rfl
def popAtK2 (k : Nat) (ds : List D) : Option D → Option (D × List D)
  | some d => some (d, ds.eraseIdx k)
  | none => none
def popAtK (ds : List D) : Option Nat → Option (D × List D)
  | some k => popAtK2 k ds ds[k]?
  | none => none
@[simp] theorem popAtK_some {n : Nat} : popAtK ds (some n) = popAtK2 n ds ds[n]? := (rfl)
@[simp] theorem popAtK2_some {n : Nat} : popAtK2 n ds (some d) = some (d, ds.eraseIdx n) := (rfl)
@[simp] theorem ev_kPopAt {a : Int} : kPopAt [.int a] ds = if -(2 ^ 63) ≤ a ∧ a < 2 ^ 63 then popAtK ds (ixN ds.length a) else none := by
  unfold kPopAt popAtK popAtK2
  rfl
@[simp] theorem ev_kInsert {a : Int} : kInsert [.int a, d] ds = if ds.length < 16777216 ∧ 0 ≤ a ∧ a < 2 ^ 63 then some (.non, ds.take a.toNat ++ [d] ++ ds.drop a.toNat) else none := (rfl)
def setK (d : D) (ds : List D) : Option Nat → Option (D × List D)
  | some n => some (.non, ds.set n d)
  | none => none
@[simp] theorem setK_some {n : Nat} : setK d ds (some n) = some (.non, ds.set n d) := (rfl)
@[simp] theorem ev_kSet {a : Int} : kSet d (.int a) ds = setK d ds (ixN ds.length a) := by
  unfold kSet setK
  rfl
end
/-! statements -/
section
variable {F G : Ms → SR} {t : Ms → Res Bool} {tg : Tg} {gs : List Tg}
@[simp] theorem ev_sNil : sNil m = .next m := (rfl)
@[simp] theorem ev_sSeq : sSeq F G m = (F m).bind G := (rfl)
def sRetb (d : D) (m : Ms) : SR := .ret d m
@[simp] theorem ev_sRet : sRet f m = (f m).sb sRetb := (rfl)
@[simp] theorem ev_sRetb : sRetb d m = .ret d m := (rfl)
@[simp] theorem ev_sRetN : sRetN m = .ret .non m := (rfl)
def sExprb (_ : D) (m : Ms) : SR := .next m
@[simp] theorem ev_sExpr : sExpr f m = (f m).sb sExprb := (rfl)
@[simp] theorem ev_sExprb : sExprb d m = .next m := (rfl)
@[simp] theorem ev_sBrk : sBrk m = .brk m := (rfl)
@[simp] theorem ev_sCnt : sCnt m = .cnt m := (rfl)
@[simp] theorem ev_sNever : sNever m = .stuck := (rfl)
def sIfb (F G : Ms → SR) (b : Bool) (m : Ms) : SR := if b = true then F m else G m
@[simp] theorem ev_sIf : sIf t F G m = (t m).sb (sIfb F G) := (rfl)
@[simp] theorem ev_sIfb_t : sIfb F G true m = F m := (rfl)
@[simp] theorem ev_sIfb_f : sIfb F G false m = G m := (rfl)
theorem ev_sIfb : sIfb F G b m = if b = true then F m else G m := rfl
@[simp] theorem ev_putV : putV i d ⟨r, S⟩ = ⟨r.set i (.val d), S⟩ := (rfl)
@[simp] theorem ev_putO : putO i ds ⟨r, S⟩ = ⟨r.set i (.own ds), S⟩ := (rfl)
def sSetb (i : Nat) (d : D) (m : Ms) : SR := .next (putV i d m)
@[simp] theorem ev_sSet : sSet i f m = (f m).sb (sSetb i) := (rfl)
@[simp] theorem ev_sSetb : sSetb i d m = .next (putV i d m) := (rfl)
def sOwnb (i : Nat) (ds : List D) (m : Ms) : SR := .next (putO i ds m)
@[simp] theorem ev_sOwn : sOwn i fq m = (fq m).sb (sOwnb i) := (rfl)
@[simp] theorem ev_sOwnb : sOwnb i ds m = .next (putO i ds m) := (rfl)
def sLocb (i : Nat) (ds : List D) (m : Ms) : SR := .next ⟨m.r.set i (.val (.loc m.S.length)), m.S ++ [.lst ds]⟩
@[simp] theorem ev_sLoc : sLoc i fq m = (fq m).sb (sLocb i) := (rfl)
@[simp] theorem ev_sLocb : sLocb i ds ⟨r, S⟩ = .next ⟨r.set i (.val (.loc S.length)), S ++ [.lst ds]⟩ := (rfl)
def oNx : Option Ms → SR
  | some m => .next m
  | none => .stuck
@[simp] theorem oNx_some : oNx (some m) = .next m := (rfl)
def sAsgb (g : Tg) (d : D) (m : Ms) : SR := oNx (g d m)
@[simp] theorem ev_sAsg : sAsg tg f m = (f m).sb (sAsgb tg) := by
  unfold sAsg sAsgb oNx
  rfl
@[simp] theorem ev_sAsgb : sAsgb tg d m = oNx (tg d m) := (rfl)
@[simp] theorem ev_tgN : tgN i d m = some (putV i d m) := (rfl)
@[simp] theorem ev_tgT_tup : tgT gs (.tup ds) m = gAll gs ds m := (rfl)
@[simp] theorem ev_tgT_lst : tgT gs (.lst ds) m = gAll gs ds m := (rfl)
@[simp] theorem ev_gAll_nil : gAll [] [] m = some m := (rfl)
def gAllb (gs : List Tg) (ds : List D) : Option Ms → Option Ms
  | some m => gAll gs ds m
  | none => none
@[simp] theorem gAllb_some : gAllb gs ds (some m) = gAll gs ds m := (rfl)
@[simp] theorem ev_gAll_cons : gAll (tg :: gs) (d :: ds) m = gAllb gs ds (tg d m) := by
  show (match tg d m with
    | some m1 => gAll gs ds m1
    | none => none) = _
  unfold gAllb
  cases tg d m <;> rfl
def sIxc (_ : D) (m : Ms) : SR := .next m
def sIxb (i : Nat) (d : D) (iv : D) (m : Ms) : SR := (chg i (kSet d iv) m).sb sIxc
def sIxa (i : Nat) (fi : Ms → Res D) (d : D) (m : Ms) : SR := if canChg i m = true then (fi m).sb (sIxb i d) else .stuck
@[simp] theorem ev_sIx : sIx i g f m = (f m).sb (sIxa i g) := (rfl)
@[simp] theorem ev_sIxa : sIxa i g d m = if canChg i m = true then (g m).sb (sIxb i d) else .stuck := (rfl)
@[simp] theorem ev_sIxb : sIxb i d y m = (chg i (kSet d y) m).sb sIxc := (rfl)
@[simp] theorem ev_sIxc : sIxc d m = .next m := (rfl)
def sParb (i j : Nat) (ds : List D) (m : Ms) : SR := match ds with
  | [d, d'] => .next (putV j d' (putV i d m))
  | _ => .stuck
@[simp] theorem ev_sPar : sPar i j fs m = (fs m).sb (sParb i j) := (rfl)
@[simp] theorem ev_sParb : sParb i j [d, y] m = .next (putV j y (putV i d m)) := (rfl)
/-! loops -/
def forK (g : Tg) (body : Ms → SR) (ds : List D) : SR → SR
  | .next m => forD g body ds m
  | .cnt m => forD g body ds m
  | .brk m => .next m
  | r => r
def forB (body : Ms → SR) : Option Ms → SR
  | some m => body m
  | none => .stuck
@[simp] theorem ev_forK_next : forK tg F ds (.next m) = forD tg F ds m := (rfl)
@[simp] theorem ev_forK_cnt : forK tg F ds (.cnt m) = forD tg F ds m := (rfl)
@[simp] theorem ev_forK_brk : forK tg F ds (.brk m) = .next m := (rfl)
@[simp] theorem ev_forK_ret : forK tg F ds (.ret d m) = .ret d m := (rfl)
@[simp] theorem ev_forK_exc : forK tg F ds (.exc x m) = .exc x m := (rfl)
@[simp] theorem ev_forB : forB F (some m) = F m := (rfl)
@[simp] theorem ev_for_nil : forD tg F [] m = .next m := (rfl)
theorem ev_for_cons : forD tg F (d :: ds) m = forK tg F ds (forB F (tg d m)) := by
  show (match tg d m with
    | none => SR.stuck
    | some m1 => _) = _
  cases tg d m with
  | none => rfl
  | some m1 =>
    show (match F m1 with
      | .next m2 => forD tg F ds m2
      | .cnt m2 => forD tg F ds m2
      | .brk m2 => .next m2
      | r => r) = forK tg F ds (F m1)
    unfold forK
    cases F m1 <;> rfl
def sForb (g : Tg) (body : Ms → SR) (ds : List D) (m : Ms) : SR := forD g body ds m
@[simp] theorem ev_sFor : sFor fq tg F m = (fq m).sb (sForb tg F) := (rfl)
@[simp] theorem ev_sForb : sForb tg F ds m = forD tg F ds m := (rfl)
/-- a loop to its end: P i, what stands ahead of the i-th turn -/
theorem forD_inv {P : Nat → Ms → Prop} : ∀ (ds : List D) (n : Nat) (m : Ms), (∀ i d m, ds[i]? = some d → P (n + i) m → ∃ m2, (forB F (tg d m) = .next m2 ∨ forB F (tg d m) = .cnt m2) ∧ P (n + i + 1) m2) → P n m → ∃ m', forD tg F ds m = .next m' ∧ P (n + ds.length) m'
  | [], n, m, _, h => ⟨m, rfl, h⟩
  | d :: ds, n, m, st, h => by
    obtain ⟨m2, e, h2⟩ := st 0 d m rfl h
    have ih := forD_inv (P := P) ds (n + 1) m2 (fun i d' m hi hp => by
      have := st (i + 1) d' m (by simpa using hi) (by rw [show n + (i + 1) = n + 1 + i by omega]; exact hp)
      rw [show n + (i + 1) + 1 = n + 1 + i + 1 by omega] at this
      exact this) h2
    obtain ⟨m', e', h'⟩ := ih
    refine ⟨m', ?_, by rw [List.length_cons, show n + (ds.length + 1) = n + 1 + ds.length by omega]; exact h'⟩
    rw [ev_for_cons]
    rcases e with e | e <;> rw [e] <;> exact e'
/-- a loop that may break: Q then -/
theorem forD_brk {P : Nat → Ms → Prop} {Q : Ms → Prop} : ∀ (ds : List D) (n : Nat) (m : Ms), (∀ i d m, ds[i]? = some d → P (n + i) m → (∃ m2, (forB F (tg d m) = .next m2 ∨ forB F (tg d m) = .cnt m2) ∧ P (n + i + 1) m2) ∨ ∃ m2, forB F (tg d m) = .brk m2 ∧ Q m2) → P n m →
    ∃ m', forD tg F ds m = .next m' ∧ (P (n + ds.length) m' ∨ Q m')
  | [], n, m, _, h => ⟨m, rfl, .inl h⟩
  | d :: ds, n, m, st, h => by
    rcases st 0 d m rfl h with ⟨m2, e, h2⟩ | ⟨m2, e, h2⟩
    · have ih := forD_brk (P := P) (Q := Q) ds (n + 1) m2 (fun i d' m hi hp => by
        have := st (i + 1) d' m (by simpa using hi) (by rw [show n + (i + 1) = n + 1 + i by omega]; exact hp)
        rw [show n + (i + 1) + 1 = n + 1 + i + 1 by omega] at this
        exact this) h2
      obtain ⟨m', e', h'⟩ := ih
      refine ⟨m', ?_, by rw [List.length_cons, show n + (ds.length + 1) = n + 1 + ds.length by omega]; exact h'⟩
      rw [ev_for_cons]
      rcases e with e | e <;> rw [e] <;> exact e'
    · refine ⟨m2, ?_, .inr h2⟩
      rw [ev_for_cons, e]
      rfl
end
/-! comprehensions -/
section
variable {vs : List Nat} {tg : Tg} {t : Ms → Res Bool} {acc : List D}
def lcS2 (vs : List Nat) (y : D) (m : Ms) : Res (Option D) := .ok (some y) (wipeM vs m)
def lcS1 (vs : List Nat) (f : Ms → Res D) (b : Bool) (m : Ms) : Res (Option D) := if b = true then (f m).bind (lcS2 vs) else .ok none (wipeM vs m)
def lcS0 (vs : List Nat) (t : Ms → Res Bool) (f : Ms → Res D) : Option Ms → Res (Option D)
  | some m => (t m).bind (lcS1 vs f)
  | none => .stuck
/-- one turn of a comprehension -/
def lcS (vs : List Nat) (tg : Tg) (t : Ms → Res Bool) (f : Ms → Res D) (d : D) (m : Ms) : Res (Option D) := lcS0 vs t f (tg d m)
@[simp] theorem ev_lcS : lcS vs tg t f d m = lcS0 vs t f (tg d m) := (rfl)
@[simp] theorem ev_lcS0 : lcS0 vs t f (some m) = (t m).bind (lcS1 vs f) := (rfl)
@[simp] theorem ev_lcS1_t : lcS1 vs f true m = (f m).bind (lcS2 vs) := (rfl)
@[simp] theorem ev_lcS1_f : lcS1 vs f false m = .ok none (wipeM vs m) := (rfl)
theorem ev_lcS1 {b : Bool} : lcS1 vs f b m = if b = true then (f m).bind (lcS2 vs) else .ok none (wipeM vs m) := rfl
@[simp] theorem ev_lcS2 : lcS2 vs d m = .ok (some d) (wipeM vs m) := (rfl)
theorem lcS_some {y : D} {m' : Ms} (h : lcS vs tg t f d m = .ok (some y) m') : ∃ m1 m2 m3, tg d m = some m1 ∧ t m1 = .ok true m2 ∧ f m2 = .ok y m3 ∧ wipeM vs m3 = m' := by
  simp only [lcS] at h
  cases e1 : tg d m with
  | none => rw [e1] at h; cases h
  | some m1 =>
    rw [e1] at h
    simp only [lcS0] at h
    cases e2 : t m1 with
    | exc x m2 => rw [e2] at h; cases h
    | stuck => rw [e2] at h; cases h
    | ok b m2 =>
      rw [e2] at h
      simp only [bind_ok, lcS1] at h
      cases b with
      | false => cases h
      | true =>
        simp only [if_true] at h
        cases e3 : f m2 with
        | exc x m3 => rw [e3] at h; cases h
        | stuck => rw [e3] at h; cases h
        | ok z m3 =>
          rw [e3] at h
          simp only [bind_ok, lcS2, Res.ok.injEq, Option.some.injEq] at h
          exact ⟨m1, m2, m3, rfl, e2, by rw [e3, h.1], h.2⟩
theorem lcS_none {m' : Ms} (h : lcS vs tg t f d m = .ok none m') : ∃ m1 m2, tg d m = some m1 ∧ t m1 = .ok false m2 ∧ wipeM vs m2 = m' := by
  simp only [lcS] at h
  cases e1 : tg d m with
  | none => rw [e1] at h; cases h
  | some m1 =>
    rw [e1] at h
    simp only [lcS0] at h
    cases e2 : t m1 with
    | exc x m2 => rw [e2] at h; cases h
    | stuck => rw [e2] at h; cases h
    | ok b m2 =>
      rw [e2] at h
      simp only [bind_ok, lcS1] at h
      cases b with
      | false => simp only [Bool.false_eq_true, if_false, Res.ok.injEq] at h; exact ⟨m1, m2, rfl, e2, h.2⟩
      | true =>
        simp only [if_true] at h
        cases e3 : f m2 with
        | exc x m3 => rw [e3] at h; cases h
        | stuck => rw [e3] at h; cases h
        | ok z m3 => rw [e3] at h; cases h
theorem lcD_step_some {y : D} {m' : Ms} (h : lcS vs tg t f d m = .ok (some y) m') (hl : acc.length < 16777216) : lcD vs tg t f (d :: ds) acc m = lcD vs tg t f ds (acc ++ [y]) m' := by
  obtain ⟨m1, m2, m3, e1, e2, e3, w⟩ := lcS_some h
  show (match tg d m with
    | none => Res.stuck
    | some m1 => _) = _
  simp only [e1, e2, e3, noX_ok, bind_ok, if_true, if_pos hl, w]
theorem lcD_step_none {m' : Ms} (h : lcS vs tg t f d m = .ok none m') : lcD vs tg t f (d :: ds) acc m = lcD vs tg t f ds acc m' := by
  obtain ⟨m1, m2, e1, e2, w⟩ := lcS_none h
  show (match tg d m with
    | none => Res.stuck
    | some m1 => _) = _
  simp only [e1, e2, noX_ok, bind_ok, Bool.false_eq_true, if_false, w]
/-- nothing changes but the block's names -/
theorem lcD_flt {γ : Type} {enc : γ → D} {k : γ → Option D} : ∀ (xs : List γ) (acc : List D), (∀ x ∈ xs, lcS vs tg t f (enc x) m = .ok (k x) m) → acc.length + xs.length ≤ 16777216 → lcD vs tg t f (xs.map enc) acc m = .ok (acc ++ xs.filterMap k) m
  | [], acc, _, _ => by simp [lcD]
  | x :: xs, acc, st, hl => by
    have hl' : acc.length + (xs.length + 1) ≤ 16777216 := hl
    have h := st x (List.mem_cons_self ..)
    rw [List.map_cons]
    cases hk : k x with
    | some y =>
      rw [hk] at h
      rw [lcD_step_some h (by omega), lcD_flt xs _ (fun z hz => st z (List.mem_cons_of_mem _ hz)) (by simp; omega)]
      simp [hk]
    | none =>
      rw [hk] at h
      rw [lcD_step_none h, lcD_flt xs _ (fun z hz => st z (List.mem_cons_of_mem _ hz)) (by omega)]
      simp [hk]
theorem lcD_of {γ : Type} {enc k : γ → D} (xs : List γ) (st : ∀ x ∈ xs, lcS vs tg t f (enc x) m = .ok (some (k x)) m) (hl : xs.length ≤ 16777216) : lcD vs tg t f (xs.map enc) [] m = .ok (xs.map k) m := by
  rw [lcD_flt (k := fun x => some (k x)) xs [] st (by simpa using hl)]
  simp
theorem lcD_if {γ : Type} {enc k : γ → D} {p : γ → Bool} (xs : List γ) (st : ∀ x ∈ xs, lcS vs tg t f (enc x) m = .ok (if p x = true then some (k x) else none) m) (hl : xs.length ≤ 16777216) : lcD vs tg t f (xs.map enc) [] m = .ok ((xs.filter p).map k) m := by
  rw [lcD_flt (k := fun x => if p x = true then some (k x) else none) xs [] st (by simpa using hl), List.nil_append]
  congr 1
  induction xs with
  | nil => rfl
  | cons x xs ih =>
    have := ih (fun z hz => st z (List.mem_cons_of_mem _ hz)) (by simp at hl; omega)
    cases hp : p x <;> simp [hp, this]
/-- a comprehension whose turns change the store: P i, what stands ahead of the i-th turn -/
theorem lcD_st {γ : Type} {enc : γ → D} {P : Nat → List D → Ms → Prop} : ∀ (xs : List γ) (n : Nat) (acc : List D) (m : Ms), (∀ i x acc m, xs[i]? = some x → P (n + i) acc m → ∃ m', (∃ y, lcS vs tg t f (enc x) m = .ok (some y) m' ∧ acc.length < 16777216 ∧ P (n + i + 1) (acc ++ [y]) m') ∨ (lcS vs tg t f (enc x) m = .ok none m' ∧ P (n + i + 1) acc m')) →
    P n acc m → ∃ acc' m', lcD vs tg t f (xs.map enc) acc m = .ok acc' m' ∧ P (n + xs.length) acc' m'
  | [], n, acc, m, _, h => ⟨acc, m, rfl, h⟩
  | d :: ds, n, acc, m, st, h => by
    have next : ∀ acc2 m2, P (n + 1) acc2 m2 → ∃ acc' m', lcD vs tg t f (ds.map enc) acc2 m2 = .ok acc' m' ∧ P (n + (d :: ds).length) acc' m' := fun acc2 m2 h2 => by
      have ih := lcD_st (P := P) ds (n + 1) acc2 m2 (fun i d' acc m hi hp => by
        have := st (i + 1) d' acc m (by simpa using hi) (by rw [show n + (i + 1) = n + 1 + i by omega]; exact hp)
        rw [show n + (i + 1) + 1 = n + 1 + i + 1 by omega] at this
        exact this) h2
      rw [List.length_cons, show n + (ds.length + 1) = n + 1 + ds.length by omega]
      exact ih
    obtain ⟨m2, h1⟩ := st 0 d acc m rfl h
    rw [List.map_cons]
    rcases h1 with ⟨y, e, l, h3⟩ | ⟨e, h3⟩
    · rw [lcD_step_some e l]
      exact next _ _ h3
    · rw [lcD_step_none e]
      exact next _ _ h3
def canW (r : List Sl) (vs : List Nat) : Bool := vs.all fun i => match r[i]? with
  | some (.own _) => false
  | _ => true
def notOwn : Option Sl → Bool
  | some (.own _) => false
  | _ => true
@[simp] theorem notOwn_val : notOwn (some (.val d)) = true := (rfl)
@[simp] theorem notOwn_un : notOwn (some .un) = true := (rfl)
@[simp] theorem canWipe_nil : canWipe [] m = true := (rfl)
@[simp] theorem canWipe_cons : canWipe (i :: vs) ⟨r, S⟩ = (notOwn r[i]? && canWipe vs ⟨r, S⟩) := by
  unfold canWipe notOwn
  rw [List.all_cons] <;> rfl
@[simp] theorem wipeM_mk : wipeM vs ⟨r, S⟩ = ⟨wipeR vs r, S⟩ := (rfl)
@[simp] theorem wipeR_nil : wipeR [] r = r := (rfl)
@[simp] theorem wipeR_cons : wipeR (i :: vs) r = (wipeR vs r).set i .un := (rfl)
@[simp] theorem restR_nil {r2 : List Sl} : restR [] r r2 = r2 := (rfl)
@[simp] theorem restR_cons {r2 : List Sl} : restR (i :: vs) r r2 = (restR vs r r2).set i (r.getD i .un) := (rfl)
def lcE (vs : List Nat) (r1 : List Sl) (acc : List D) (m : Ms) : Res (List D) := .ok acc ⟨restR vs r1 m.r, m.S⟩
@[simp] theorem ev_lcE : lcE vs r acc m = .ok acc ⟨restR vs r m.r, m.S⟩ := (rfl)
def lcB (vs : List Nat) (g : Tg) (t : Ms → Res Bool) (f : Ms → Res D) (ds : List D) (m : Ms) : Res (List D) := if canWipe vs m = true then (lcD vs g t f ds [] (wipeM vs m)).bind (lcE vs m.r) else .stuck
@[simp] theorem ev_nLc : nLc fq vs tg t f m = (fq m).bind (lcB vs tg t f) := (rfl)
@[simp] theorem ev_lcB : lcB vs tg t f ds ⟨r, S⟩ = if canWipe vs ⟨r, S⟩ = true then (lcD vs tg t f ds [] (wipeM vs ⟨r, S⟩)).bind (lcE vs r) else .stuck := (rfl)
end
/-! calls -/
def fCallc (r : List Sl) : FR → Res D
  | .ok d S => .ok d ⟨r, S⟩
  | .exc x S => .exc x ⟨r, S⟩
  | .stuck => .stuck
def fCallb (F : Fn) (ds : List D) (m : Ms) : Res D := fCallc m.r (F ds m.S)
@[simp] theorem ev_fCall {F : Fn} : fCall F fs m = (fs m).bind (fCallb F) := by
  have : fCallb F = fun ds m1 => (match F ds m1.S with
    | .ok d S => Res.ok d ⟨m1.r, S⟩
    | .exc x S => .exc x ⟨m1.r, S⟩
    | .stuck => .stuck) := by
    funext ds m1
    unfold fCallb fCallc
    cases F ds m1.S <;> rfl
  rw [this]
  rfl
@[simp] theorem ev_fCallb {F : Fn} : fCallb F ds ⟨r, S⟩ = fCallc r (F ds S) := (rfl)
@[simp] theorem ev_fCallc_ok : fCallc r (.ok d S) = .ok d ⟨r, S⟩ := (rfl)
@[simp] theorem ev_fCallc_exc : fCallc r (.exc x S) = .exc x ⟨r, S⟩ := (rfl)
def runC : SR → FR
  | .next m => .ok .non m.S
  | .ret d m => .ok d m.S
  | .exc x m => .exc x m.S
  | _ => .stuck
@[simp] theorem runC_next : runC (.next m) = .ok .non m.S := (rfl)
@[simp] theorem runC_ret : runC (.ret d m) = .ok d m.S := (rfl)
@[simp] theorem runC_exc : runC (.exc x m) = .exc x m.S := (rfl)
theorem ev_run {n : Nat} {body : Ms → SR} : runB n body ds S = runC (body ⟨ds.map .val ++ List.replicate (n - ds.length) .un, S⟩) := by
  unfold runB runC
  cases body ⟨ds.map .val ++ List.replicate (n - ds.length) .un, S⟩ <;> rfl
/-! errors -/
section
variable {F : Ms → SR} {cn fl : Str} {oth : List Str} {k : HK}
def sRaiseb (cn fl : Str) (d : D) (m : Ms) : SR := .exc ⟨cn, [(fl, d)]⟩ m
@[simp] theorem ev_sRaise : sRaise cn fl f m = (f m).sb (sRaiseb cn fl) := (rfl)
@[simp] theorem ev_sRaiseb : sRaiseb cn fl d m = .exc ⟨cn, [(fl, d)]⟩ m := (rfl)
def tryK (cn fl : Str) (oth : List Str) (i : Nat) (k : HK) : SR → SR
  | .exc x m1 => if x.c = cn then (if i < m1.r.length then hK fl k x m1 else .stuck) else if x.c ∈ oth then .exc x m1 else .stuck
  | r => r
@[simp] theorem ev_sTryAs : sTryAs cn fl oth i k F m = tryK cn fl oth i k (F m) := by
  unfold sTryAs tryK
  cases F m <;> rfl
@[simp] theorem ev_tryK_next : tryK cn fl oth i k (.next m) = .next m := (rfl)
@[simp] theorem ev_tryK_ret : tryK cn fl oth i k (.ret d m) = .ret d m := (rfl)
@[simp] theorem ev_tryK_brk : tryK cn fl oth i k (.brk m) = .brk m := (rfl)
@[simp] theorem ev_tryK_cnt : tryK cn fl oth i k (.cnt m) = .cnt m := (rfl)
@[simp] theorem ev_tryK_exc : tryK cn fl oth i k (.exc ⟨cn, [(fl, d)]⟩ ⟨r, S⟩) = if i < r.length then hK fl k ⟨cn, [(fl, d)]⟩ ⟨r, S⟩ else .stuck := by
  show (if cn = cn then _ else _) = _
  rw [if_pos rfl]
@[simp] theorem ev_hK_tup {s : Str} {c : Str} : hK fl (.tup s) ⟨c, [(fl, d)]⟩ m = .ret (.tup [.str s, d]) m := by
  unfold hK
  simp
@[simp] theorem ev_hK_fld {c : Str} : hK fl .fld ⟨c, [(fl, d)]⟩ m = .ret d m := by
  unfold hK
  simp
end
@[simp] theorem ev_lenSetS {xs : List Str} : lenSetS (xs.map D.str) m = if xs.length < 4000 then .ok (.int (cntd xs xs.length)) m else .stuck := by
  unfold lenSetS
  rw [strsOf_map]
@[simp] theorem ev_sortSet {ns : List Int} : nSortSet (ns.map D.int) m = if ns.length < 64 then .ok ((sortSet ns).map D.int) m else .stuck := by
  unfold nSortSet
  rw [intsOf_map]
theorem ev_minL {n : Int} {ns : List Int} : oMinL ((n :: ns).map D.int) m = .ok (.int (mnL n ns)) m := by
  unfold oMinL
  rw [intsOf_map]
theorem ev_maxL {n : Int} {ns : List Int} : oMaxL ((n :: ns).map D.int) m = .ok (.int (mxL n ns)) m := by
  unfold oMaxL
  rw [intsOf_map]
end
end Wd

namespace Wd
open PySem PySem.Spec PyProof.Rows L2
/-! ### the head: facts by names, tests of one's own -/
theorem fun_of {K : PySem.W.Frag} {x qual : Str} {st : Stmt} {f : Addr} {fd : FuncData} (F : FunD K x qual (defArgs st) (defBody st) (defScope st) [] [] f fd) : Fun K x qual st f fd := by
  obtain ⟨oc, od, dV, kV, doc, pm, an, cdv, ct, osl, e, lk, hcd, hd, _⟩ := F.ex
  have hd0 : dV = .none := by
    rcases hd with ⟨_, h⟩ | ⟨h, _⟩
    · exact h
    · exact absurd rfl h
  subst hd0
  exact ⟨⟨oc, od, kV, doc, pm, an, cdv, ct, osl, e, lk, hcd⟩, F.kp⟩
def fdK (K : PySem.W.Frag) (z : FuncData) (f : Addr) : FuncData := match K.lookup f with
  | some ⟨_, _, .func fd, _⟩ => fd
  | _ => z
abbrev Tst : Type := PySem.W.Frag → Bool
def tst (f : He.Fa) : Tst := fun K => f.ok K
def dOf (x : Str) (st : Stmt) : He.DefD := ⟨(x, none), x, x, defArgs st, defBody st, defScope st, [], []⟩
def obsX (ts : List Tst) (fn : List He.DefD) (K : PySem.W.Frag) : He.AlD := ((ts.all fun f => f K) && fn.all fun d => d.ok K, fn.map fun d => He.fnW K d.at_)
def SaysX (ts : List Tst) (fn : List He.DefD) (K : PySem.W.Frag) : Prop := obsX ts fn K = He.valD fn
def obsXG (n : Nat) (ts : List Tst) (fn : List He.DefD) (g : Addr → Option Obj) : He.AlD := obsX ts fn (He.frG g (He.asD g n))
def hookX (n : Nat) (ts : List Tst) (fn : List He.DefD) : PySem.W.Hook where
  α := He.AlD
  obs := fun s => obsXG n ts fn s.heap.get?
  val := fun _ => He.valD fn
  says := fun _ h => ∃ K : PySem.W.Frag, K.In h ∧ SaysX ts fn K
  of := fun _ _ e => ⟨_, He.frG_in, e⟩
  keeps := fun _ _ _ ⟨K, hK, c⟩ k => ⟨K, PySem.W.Frag.In.keeps hK k, c⟩
theorem obsXG_eq {n : Nat} {ts : List Tst} {fn : List He.DefD} {g : Addr → Option Obj} {s : Shared} (h : ∀ a, g a = s.heap.get? a) : obsXG n ts fn g = (hookX n ts fn).obs s := by
  have e : g = s.heap.get? := funext h
  rw [e] <;> rfl
section
variable {ts : List Tst} {fn : List He.DefD} {K : PySem.W.Frag}
theorem SaysX.test (c : SaysX ts fn K) (i : Nat) {f : Tst} (h : ts[i]? = some f := by rfl) : f K = true := by
  have c1 := (He.ba (show ((ts.all fun f => f K) && fn.all fun d => d.ok K) = true from congrArg (fun z : He.AlD => z.1) c)).1
  exact List.all_eq_true.mp c1 f (List.mem_of_getElem? h)
theorem SaysX.fact (c : SaysX ts fn K) (i : Nat) {f : He.Fa} (h : ts[i]? = some (tst f) := by rfl) : f.ok K = true := c.test i h
theorem SaysX.def_ (c : SaysX ts fn K) (i : Nat) {d : He.DefD} (h : fn[i]? = some d := by rfl) : ∃ fd, FunD K d.name d.qual d.params d.body d.scope (d.dvs K) (d.kws K) (He.fAd K d.at_) fd := by
  have c2 := (He.ba (show ((ts.all fun f => f K) && fn.all fun d => d.ok K) = true from congrArg (fun z : He.AlD => z.1) c)).2
  have e : fn.map (fun d => He.fnW K d.at_) = fn.map He.DefD.val := congrArg (fun z : He.AlD => z.2) c
  have e2 : (fn.map fun d => He.fnW K d.at_)[i]? = (fn.map He.DefD.val)[i]? := by rw [e]
  rw [List.getElem?_map, List.getElem?_map, h] at e2
  exact He.DefD.funD (Option.some.inj e2) (List.all_eq_true.mp c2 d (List.mem_of_getElem? h))
/-- the i-th def -/
theorem SaysX.fun_ (c : SaysX ts fn K) (z : FuncData) (i : Nat) {x : Str} {st : Stmt} (h : fn[i]? = some (dOf x st) := by rfl) : Fun K x x st (He.ga K x) (fdK K z (He.ga K x)) := by
  obtain ⟨fd, F⟩ := c.def_ i h
  have F' : Fun K x x st (He.ga K x) fd := fun_of F
  have e : fdK K z (He.ga K x) = fd := by
    obtain ⟨oc, od, kV, doc, pm, an, cdv, ct, osl, e1, lk, hcd⟩ := F'.ex
    unfold fdK
    rw [lk]
  rw [e]
  exact F'
theorem SaysX.any (c : SaysX ts fn K) (i : Nat) {x : Str} {st : Stmt} (h : fn[i]? = some (dOf x st) := by rfl) : ∃ z : FuncData, True := by
  obtain ⟨fd, F⟩ := c.def_ i h
  exact ⟨fd, trivial⟩
end
/-! tuples of the module -/
def dvOf : D → Option He.Dv
  | .int i => some (.int i)
  | .str x => some (.str x)
  | .bl b => some (.bl b)
  | .non => some .non
  | _ => none
def tupT (x : Str) (ds : List D) : Tst := fun K => (He.Fa.glo x).ok K && (match ds.mapM dvOf with
  | some vs => He.tupB K x vs
  | none => false)
theorem dv_rep {K : PySem.W.Frag} {A B : List Addr} {H : Hp} : ∀ {ds : List D} {vs : List He.Dv}, ds.mapM dvOf = some vs → Reps K A B H (vs.map (He.Dv.v K)) ds
  | [], vs, e => by
    have : vs = [] := by simpa using e.symm
    subst this
    exact .nil
  | d :: ds, vs, e => by
    rw [List.mapM_cons] at e
    cases e1 : dvOf d with
    | none => rw [e1] at e; cases e
    | some v =>
      cases e2 : ds.mapM dvOf with
      | none => rw [e1, e2] at e; cases e
      | some ws =>
        rw [e1, e2] at e
        have : vs = v :: ws := by simpa using e.symm
        subst this
        refine .cons ?_ (dv_rep e2)
        cases d <;> simp [dvOf] at e1 <;> subst e1 <;> first | exact .int _ | exact .str _ | exact .bl _ | exact .non
theorem gtup_ok {K : PySem.W.Frag} {h : Heap} {mg : Str → Option Value} {x : Str} {ds : List D} (X : K.In h) (G : h.Ns mainGlobals mg) (t : tupT x ds K = true) : GTup K mg x ds := by
  obtain ⟨c1, c2⟩ := He.ba t
  cases e : ds.mapM dvOf with
  | none => rw [e] at c2; cases c2
  | some vs =>
    rw [e] at c2
    refine ⟨He.ga K x, vs.map (He.Dv.v K), He.glo_ok X G c1, ?_, fun A B H => dv_rep e⟩
    rcases He.tupB_ok c2 (fun _ => none) with h | ⟨o, its, n, h1, h2, h3, h4, h5⟩
    · rcases h with h | ⟨o, h⟩ <;> cases h
    · exact ⟨o, its, n, h1, h2, h3, h4, h5⟩
/-! classes of errors -/
def iniOf (st : Stmt) : Stmt := match st with
  | .ClassDef (body := b) .. => b.getD 0 st
  | _ => st
def iOf (cn qual : Str) (st : Stmt) : He.DefD := ⟨(cn, some "__init__"), "__init__", qual, defArgs st, defBody st, defScope st, [], []⟩
def exnTst (cn fl : Str) : Tst := fun K => (He.Fa.glo cn).ok K && (PySem.W.excInitIn K (He.ga K cn) exMro "Exception.__new__" && (PySem.W.excOver K (He.ga K cn) exMro &&
  (He.eqO (PySem.W.findIn K (.ref (He.ga K cn)) "__setattr__") (some (some (.builtin "object.__setattr__"))) && (He.eqO (PySem.W.findIn K (.ref (He.ga K cn)) "__getattribute__") (some (some (.builtin "BaseException.__getattribute__"))) &&
  (He.eqO (PySem.W.findIn K (.ref (He.ga K cn)) "__getattr__") (some none) && (He.eqO (PySem.W.findIn K (.ref (He.ga K cn)) fl) (some none) && (He.eqO (PySem.W.takerIn K (He.ga K cn) fl) (some none) &&
  (He.eqO (PySem.W.findIn K (.ref (He.ga K cn)) "__init__") (some (some (.ref (He.ma K (He.ga K cn) "__init__")))) && (decide (PySem.W.typeIn K (.ref (He.ma K (He.ga K cn) "__init__")) = some (.type "function")) && (PySem.W.keepIn K (.ref (He.ga K cn)) &&
  (decide (PySem.W.subIn K (.ref (He.ga K cn)) (.type "BaseException") = some true) && (decide (PySem.W.typeIn K (.ref (He.ga K cn)) = some (.type "type")) && PySem.W.hasDictIn K (He.ga K cn)))))))))))))
theorem exnT_of {K : PySem.W.Frag} {h : Heap} {mg : Str → Option Value} {cn fl qual : Str} {st : Stmt} (X : K.In h) (G : h.Ns mainGlobals mg) (t : exnTst cn fl K = true) (F : ∃ fd, FunD K "__init__" qual (defArgs st) (defBody st) (defScope st) [] [] (He.ma K (He.ga K cn) "__init__") fd)
    (gf : GoodFl fl) (hst : ∃ p1 p2 q1 q2 q3 q4, defArgs st = iniA fl p1 p2 ∧ defBody st = iniB fl q1 q2 q3 q4 ∧ defScope st = iniS fl) : ExnT K mg cn fl (He.ga K cn) (He.ma K (He.ga K cn) "__init__") := by
  obtain ⟨c0, t⟩ := He.ba t
  obtain ⟨c1, t⟩ := He.ba t
  obtain ⟨c2, t⟩ := He.ba t
  obtain ⟨c3, t⟩ := He.ba t
  obtain ⟨c4, t⟩ := He.ba t
  obtain ⟨c5, t⟩ := He.ba t
  obtain ⟨c6, t⟩ := He.ba t
  obtain ⟨c7, t⟩ := He.ba t
  obtain ⟨c8, t⟩ := He.ba t
  obtain ⟨c9, t⟩ := He.ba t
  obtain ⟨c10, t⟩ := He.ba t
  obtain ⟨c11, t⟩ := He.ba t
  obtain ⟨c12, c13⟩ := He.ba t
  refine ⟨He.glo_ok X G c0, c1, c2, He.eqO_ok c3, He.eqO_ok c4, He.eqO_ok c5, He.eqO_ok c6, He.eqO_ok c7, He.eqO_ok c8, of_decide_eq_true c9, c10, of_decide_eq_true c11, of_decide_eq_true c12, c13, gf, ?_⟩
  obtain ⟨fd, F⟩ := F
  obtain ⟨p1, p2, q1, q2, q3, q4, e1, e2, e3⟩ := hst
  rw [e1, e2, e3] at F
  obtain ⟨oc, od, dV, kV, doc, pm, an, cdv, ct, osl, e, lk, hcd, hd, _⟩ := F.ex
  have hd0 : dV = .none := by
    rcases hd with ⟨_, h⟩ | ⟨h, _⟩
    · exact h
    · exact absurd rfl h
  subst hd0
  subst e
  exact ⟨oc, od, qual, kV, doc, pm, an, cdv, ct, osl, p1, p2, q1, q2, q3, q4, lk, hcd⟩
theorem oth_nil {K : PySem.W.Frag} {mg : Str → Option Value} {C : Addr} : ∀ o ∈ ([] : List Str), ∀ C', mg o = some (.ref C') → PySem.W.exmOne K (.ref C') (.ref C) = some false := fun o h => by cases h
theorem oth_cons {K : PySem.W.Frag} {mg : Str → Option Value} {C C1 : Addr} {o1 : Str} {os : List Str} (g : mg o1 = some (.ref C1)) (e : PySem.W.exmOne K (.ref C1) (.ref C) = some false) (r : ∀ o ∈ os, ∀ C', mg o = some (.ref C') → PySem.W.exmOne K (.ref C') (.ref C) = some false) :
    ∀ o ∈ o1 :: os, ∀ C', mg o = some (.ref C') → PySem.W.exmOne K (.ref C') (.ref C) = some false := fun o h C' hm => by
  rcases List.mem_cons.mp h with z | z
  · subst z
    rw [g] at hm
    cases hm
    exact e
  · exact r o z C' hm
theorem Fun.bindsA {K : PySem.W.Frag} {x qual : Str} {st : Stmt} {f : Addr} {fd : FuncData} {ps : List Str} (F : Fun K x qual st f fd)
    (h : ∀ (kV doc pm : Value) (an : Option Addr) (cdv ct : Value) (us : List Value), us.length = ps.length → bindArgs (PySem.W.fnOf x qual (defArgs st) (defBody st) (defScope st) .none kV doc pm an cdv ct) ⟨us, []⟩ = pure (ps.zip us)) :
    ∀ (s : Shared) (us : List Value), us.length = ps.length → BindsTo s fd ⟨us, []⟩ (ps.zip us) := by
  obtain ⟨oc, od, kV, doc, pm, an, cdv, ct, osl, rfl, lk, hcd⟩ := F.ex
  exact fun s us hl => .of_eq (h kV doc pm an cdv ct us hl)
/-- the law's promise, where its data answer True -/
theorem spD_law {K : PySem.W.Frag} {mg : Str → Option Value} {F : Fn} {H : Hp} {a : Addr} {ns : List Int} (hO : Only H) (hS : SqL K H a (ns.map V.int)) (hF : ∃ S, F [.ro (ns.map .int)] [] = .ok (.bl true) S) :
    spD K mg 1 F [.ref a] H (fun v _ => v = .bl true) fun _ _ _ => False := by
  obtain ⟨S, e⟩ := hF
  have ro : RoAt K (bad [] [] []) H a (ns.map V.int) := by
    rcases hS with h | ⟨o, its, n, h⟩
    · rcases h with h | ⟨o, h⟩
      · rcases hO a with h2 | ⟨o, xs, h2⟩ <;> rw [h] at h2 <;> cases h2
      · exact .inl ⟨o, h, by simp [bad, own]⟩
    · exact .inr ⟨o, its, n, h⟩
  have ri : ∀ l : List Int, Reps K [] (bad [] [] []) H (l.map V.int) (l.map D.int) := fun l => by
    induction l with
    | nil => exact .nil
    | cons i l ih => exact .cons (.int i) ih
  refine ⟨rfl, [], [], [], _, ⟨⟨?_, ?_, ?_⟩, fun a h => by cases h⟩, .cons (.ro ro (ri ns)) .nil, ?_⟩
  case refine_4 =>
    rw [e]
    intro v A' H' _ _ r
    cases r
    rfl
  all_goals first | rfl | (intros; simp_all)
theorem walk_ofW {l : PySem.W.OpenLaw} {n k : Nat} {q : Program} {loose : List Str} {XP : (Str → Option Value) → Heap → Prop} {YP : World → Heap → Prop} {d : DefRec} {x : Str}
    (hn : l.most = some n) (hn2 : n ≤ sizeLine) (hdf : d.params.defaults = []) (hr : Room k callerA)
    (F : ∀ (w : World) (mg : Str → Option Value) (fa : Addr) (h : Heap), YP w h → h.Ns mainGlobals mg → mg d.name = some (.ref fa) →
      ∃ (K : PySem.W.Frag) (fd : FuncData) (F : Fn), K.In h ∧ (∀ (s : Shared) (u : Value), BindsTo s fd ⟨[u], []⟩ [(x, u)]) ∧
        (∀ (ns : List Int), ns.length ≤ n → ∃ S, F [.ro (ns.map .int)] [] = .ok (.bl true) S) ∧
        ∀ base : Heap, K.In base → base.Ns mainGlobals mg → DFn l.prog w K mg base k fa fd [x] F) :
    PySem.W.WalkO q loose XP YP l.row.toRowW d [] (fun f vs => PySem.call f vs) := by
  refine Att.attach_call hn hdf fun w s₀ s₁ mg mb fa o pm cd doc a vs ns G Y ho hd hcd hmg hobj hints hlen hg => ?_
  obtain ⟨K, fd, F, KX, hb, hsp, hF⟩ := F w mg fa _ Y G.T.g hmg
  exact law_call KX G.T.g G.T.b G.T.builtins G.T.nolimit hg hobj hints (Nat.le_trans hlen hn2) hr hF hb (fun H hO hS => spD_law hO hS (hsp ns hlen)) fun H e s' hc => by
    obtain ⟨_, _, _, _, _, _, _, _, _, _, _, _, hh⟩ := hc
    exact hh
/-! ### a, b = e, [..]: the second one a list of the def's own -/
section
variable {X : Cx} {W : WX} {a b : Expr} {pos : Pos} {f : Ms → Res D} {fq : Ms → Res (List D)}
def sParO (i j : Nat) (f : Ms → Res D) (fq : Ms → Res (List D)) (m : Ms) : SR := (f m).sb fun d m1 => (fq m1).sb fun ds m2 => .next (putO j ds (putV i d m2))
theorem ds_parO (i j : Nat) {x y : Str} {px py pt : Pos} {kt k2 pt2} (hc : X.calm = true) (hN : X.N.Nodup) (ha : DE X W a f) (hb : DN X W b fq) (hij : i ≠ j := by decide) (hi : X.N[i]? = some x := by rfl) (hj : X.N[j]? = some y := by rfl)
    (hx : X.env.scope.names.lookup x = some .local := by rfl) (hy : X.env.scope.names.lookup y = some .local := by rfl)
    (hw : swappedStores [.Tuple [.Name x px, .Name y py] kt pt] (.Tuple [a, b] k2 pt2) X.env = pure (some [x, y]) := by rfl)
    (hs : swapsWithSole [.Tuple [.Name x px, .Name y py] kt pt] (.Tuple [a, b] k2 pt2) pos.line X.env = pure false := by rfl)
    (h1 : starEach [a, b] X.env = (false, eval a X.env) :: starEach [b] X.env := by rfl) (h2 : starEach [b] X.env = (false, eval b X.env) :: starEach [] X.env := by rfl) :
    DS X W (.Assign [.Tuple [.Name x px, .Name y py] kt pt] (.Tuple [a, b] k2 pt2) pos) (sParO i j f fq) :=
  PS.imp (ps_par hc hN hi hj hij hx hy (pa_cons ha (pa_cons hb pa_nil h2) h1) hw hs) fun D σ H ⟨Z, A, O, m, s, q⟩ => ⟨Z, A, O, m, s, SPD.sb q fun v d m1 A1 O1 H1 ev1 s1 r1 q1 => ⟨Z, A1, O1, m1, s1, SPD.sb q1 fun xs ds m2 A2 O2 H2 ev2 s2 r2 q2 p hp => by
    have r1' := r1.carry ev2.carry
    have s3 := s2.setVal i r1'
    have s4 := s3.setOwn j hp (r2.carry (Ev.set_none (i := i)).carry)
    exact ⟨v, .ref p, rfl, q2 _ A2 _ _ (Ev.set_none.trans (.set_own hp)) s4⟩⟩⟩
def sParOc (i j : Nat) (d : D) (ds : List D) (m : Ms) : SR := .next (putO j ds (putV i d m))
def sParOb (i j : Nat) (fq : Ms → Res (List D)) (d : D) (m : Ms) : SR := (fq m).sb (sParOc i j d)
@[simp] theorem ev_sParO {i j : Nat} {m : Ms} : sParO i j f fq m = (f m).sb (sParOb i j fq) := (rfl)
@[simp] theorem ev_sParOb {i j : Nat} {m : Ms} {d : D} : sParOb i j fq d m = (fq m).sb (sParOc i j d) := (rfl)
@[simp] theorem ev_sParOc {i j : Nat} {m : Ms} {d : D} {ds : List D} : sParOc i j d ds m = .next (putO j ds (putV i d m)) := (rfl)
end
end Wd

namespace Wh
open PySem PySem.Spec PyProof.Rows L2 Wd
/-! defs that stand in several laws, as functions over data; printed by com.py -/
noncomputable def lp_law_numbers_1 : Ms → SR :=
 (sSeq (sIf (tOf (e2 (oEq false) (eVar 3) (eC (.int 0))))
 sBrk
 sNil)
 (sSeq (sExpr (eMut 1 kAppend (aCons (e2 oMod (eCall cInt (aCons (eVar 3) aNil)) (eC (.int 997))) aNil)))
 (sSet 3 (e2 oDiv (eVar 3) (eC (.int 997))))))
noncomputable def lp_law_numbers_2 : Ms → SR :=
 (sSeq (sSet 5 (e2 oMod (eCall cInt (aCons (e2 oAdd (e2 oAdd (e2 oMul (eVar 2) (eC (.int 48271))) (e2 oMul (eVar 4) (eC (.int 69621)))) (eC (.int 11))) aNil)) (eC (.int 2147483647))))
 (sExpr (eMut 1 kAppend (aCons (e2 oMod (eCall cInt (aCons (e2 oAdd (e2 oMul (eVar 5) (eC (.int 16807))) (eVar 4)) aNil)) (eC (.int 2147483629))) aNil))))
noncomputable def lp_law_numbers_3 : Ms → SR :=
 (sIf (tOf (e2 oGe (eVar 2) (e2 oPow (eC (.int 10)) (eC (.int 18)))))
 (sSeq (sSet 3 (eVar 2))
 (sFor (rg1 (aCons (eC (.int 60)) aNil)) (tgN 4) lp_law_numbers_1))
 (sFor (rg1 (aCons (eC (.int 4)) aNil)) (tgN 4) lp_law_numbers_2))
noncomputable def b_law_numbers : Ms → SR :=
 (sSeq (sOwn 1 (nLst aNil))
 (sSeq (sFor (itE (eSl (eVar 0) pNone (pSome (eC (.int 63))))) (tgN 2) lp_law_numbers_3)
 (sSeq (sIf (tOf (e2 (oEq false) (e1 oLen (eBor 1)) (eC (.int 0))))
 (sExpr (eMut 1 kAppend (aCons (eC (.int 0)) aNil)))
 sNil)
 (sRet (eVar 1)))))
noncomputable def F_law_numbers : Fn := runB 6 b_law_numbers
noncomputable def b_law_draw : Ms → SR :=
 (sSeq (sIf (tOf (e2 oLt (eVar 1) (e1 oLen (eBor 0))))
 (sRet (e2 oMod (eCall cInt (aCons (e2V oIx 0 (eVar 1)) aNil)) (eVar 2)))
 sNil)
 (sSeq (sSet 3 (e2 oMod (eCall cInt (aCons (e2 oAdd (e2 oAdd (e2 oMul (e2V oIx 0 (e2 oMod (eCall cInt (aCons (eVar 1) aNil)) (e1 oLen (eBor 0)))) (eC (.int 40692))) (e2 oMul (eVar 1) (eC (.int 7919)))) (eC (.int 3))) aNil)) (eC (.int 2147483399))))
 (sRet (e2 oMod (eCall cInt (aCons (e2 oMod (eCall cInt (aCons (e2 oAdd (e2 oMul (eVar 3) (eC (.int 48271))) (eVar 1)) aNil)) (eC (.int 2147483647))) aNil)) (eVar 2)))))
noncomputable def F_law_draw : Fn := runB 4 b_law_draw
noncomputable def lp_law_so_1 (F : Fn) : Ms → SR :=
 (sIf (tNotD (tOf (fCall F (aCons (e2V oIx 0 (eVar 2)) (aCons (e2V oIx 1 (eVar 2)) aNil)))))
 (sRet (eC (.bl false)))
 sNil)
noncomputable def b_law_so (F : Fn) : Ms → SR :=
 (sSeq (sIf (tOf (e2 (oIsN false) (eVar 1) (eC .non)))
 (sRet (e2 (oIsN false) (eVar 0) (eC .non)))
 sNil)
 (sSeq (sIf (tOf (e1 (oIsi [.tuple]) (eBor 1)))
 (sSeq (sIf (tOrD (tNotD (tOf (e1 (oIsi [.tuple]) (eBor 0)))) (tOf (e2 (oEq true) (e1 oLen (eBor 0)) (e1 oLen (eBor 1)))))
 (sRet (eC (.bl false)))
 sNil)
 (sSeq (sFor (rg1 (aCons (e1 oLen (eBor 1)) aNil)) (tgN 2) (lp_law_so_1 F))
 (sRet (eC (.bl true)))))
 sNil)
 (sSeq (sIf (tOrD (tOf (e1 (oIsi [.bool]) (eBor 1))) (tOf (e1 (oIsi [.bool]) (eBor 0))))
 (sRet (eAnd (e1 (oIsi [.bool]) (eBor 1)) (eAnd (e1 (oIsi [.bool]) (eBor 0)) (e2 (oEq false) (eVar 0) (eVar 1)))))
 sNil)
 (sSeq (sIf (tOf (e1 (oIsi [.int]) (eBor 1)))
 (sRet (eAnd (e1 (oIsi [.int]) (eBor 0)) (e2 (oEq false) (eVar 0) (eVar 1))))
 sNil)
 (sRet (eAnd (e1 (oIsi [.str]) (eBor 1)) (eAnd (e1 (oIsi [.str]) (eBor 0)) (e2 (oEq false) (eVar 0) (eVar 1)))))))))
noncomputable def F_law_so : Nat → Fn
  | 0 => fun _ _ => .stuck
  | k + 1 => runB 3 (b_law_so (F_law_so k))
noncomputable def b_law_listed (F : Fn) : Ms → SR :=
 (sSeq (sIf (tOf (e1 (oIsi [.tuple]) (eBor 0)))
 (sRet (eNew (nLc (itE (eVar 0)) [1] (tgN 1) tYesD (fCall F (aCons (eVar 1) aNil)))))
 sNil)
 (sRet (eVar 0)))
noncomputable def F_law_listed : Nat → Fn
  | 0 => fun _ _ => .stuck
  | k + 1 => runB 2 (b_law_listed (F_law_listed k))
noncomputable def b_law_whole : Ms → SR :=
 (sRet (eAnd (e1 (oIsi [.int]) (eBor 0)) (eNot (e1 (oIsi [.bool]) (eBor 0)))))
noncomputable def F_law_whole : Fn := runB 1 b_law_whole
noncomputable def b_law_is_word : Ms → SR :=
 (sSeq (sIf (tOrD (tNotD (tOf (e1 (oIsi [.str]) (eBor 0)))) (tNotD (tOf (eChain oLe oLe (eC (.int 1)) (e1 oLen (eBor 0)) (eC (.int 8))))))
 (sRet (eC (.bl false)))
 sNil)
 (sRet (e2 (oEq false) (e1 oLen (eNew (nLc (itE (eVar 0)) [1] (tgN 1) (tOf (e2 (oIn true) (eVar 1) (eC (.str "abcdefghijklmnopqrstuvwxyz")))) (eVar 1)))) (eC (.int 0)))))
noncomputable def F_law_is_word : Fn := runB 2 b_law_is_word
noncomputable def b_law_feeds : Ms → SR :=
 (sRet (e2 oGt (e1 oLen (eNew (nLc (itE (e2V oIx 0 (eC (.int 3)))) [2] (tgN 2) (tOf (e2 (oIn false) (eVar 2) (e2V oIx 1 (eC (.int 2))))) (eVar 2)))) (eC (.int 0))))
noncomputable def F_law_feeds : Fn := runB 3 b_law_feeds
noncomputable def b_law_toggled : Ms → SR :=
 (sRet (e1 oTupOf (eNew (n1q nSortI (nCat (eNew (nLc (itE (eVar 0)) [2] (tgN 2) (tOf (e2 (oEq true) (eVar 2) (eVar 1))) (eVar 2))) (qLo (eIf (tOf (e2 (oIn false) (eVar 1) (eBor 0))) (eNew (nLst aNil)) (eNew (nLst (aCons (eVar 1) aNil))))))))))
noncomputable def F_law_toggled : Fn := runB 3 b_law_toggled
noncomputable def b_leads_to : Ms → SR :=
 (sRet (e1q oAny (nLc (itE (e2V oIx 0 (eC (.int 3)))) [2] (tgN 2) tYesD (e2 (oIn false) (eVar 2) (e2V oIx 1 (eC (.int 2)))))))
noncomputable def F_leads_to : Fn := runB 3 b_leads_to
noncomputable def b_is_sequence : Ms → SR :=
 (sRet (e1 (oIsi [.list, .tuple]) (eBor 0)))
noncomputable def F_is_sequence : Fn := runB 1 b_is_sequence
noncomputable def b_is_integer : Ms → SR :=
 (sRet (eAnd (e1 (oIsi [.int]) (eBor 0)) (eNot (e1 (oIsi [.bool]) (eBor 0)))))
noncomputable def F_is_integer : Fn := runB 1 b_is_integer
noncomputable def b_is_word : Ms → SR :=
 (sRet (eAnd (e1 (oIsi [.str]) (eBor 0)) (eAnd (eChain oLe oLe (eC (.int 1)) (e1 oLen (eBor 0)) (eC (.int 8))) (e1q oAll (nLc (itE (eVar 0)) [1] (tgN 1) tYesD (e2 (oIn false) (eVar 1) (eC (.str "abcdefghijklmnopqrstuvwxyz"))))))))
noncomputable def F_is_word : Fn := runB 2 b_is_word
noncomputable def lp_share_ins_1 : Ms → SR :=
 (sIf (tAndD (tOrD (tOf (e2 (oEq false) (e2 oIx (e2V oIx 2 (eC (.int 1))) (eC (.int 0))) (eC (.str "plain")))) (tOf (e2 (oEq false) (e2 oIx (e2V oIx 3 (eC (.int 1))) (eC (.int 0))) (eC (.str "plain"))))) (tOf (e1q oAny (nLc (itE (e2V oIx 2 (eC (.int 2)))) [4] (tgN 4) tYesD (e2 (oIn false) (eVar 4) (e2V oIx 3 (eC (.int 2))))))))
 (sRet (eC (.bl true)))
 sNil)
noncomputable def lp_share_ins_2 : Ms → SR :=
 (sFor (itE (eSl (eVar 0) pNone (pSome (eVar 1)))) (tgN 3) lp_share_ins_1)
noncomputable def b_share_ins : Ms → SR :=
 (sSeq (sFor (enE (eVar 0)) (tgT [(tgN 1), (tgN 2)]) lp_share_ins_2)
 (sRet (eC (.bl false))))
noncomputable def F_share_ins : Fn := runB 5 b_share_ins
noncomputable def b_law_enabled : Ms → SR :=
 (sRet (eNew (nLc (itE (e2V oIx 0 (eC (.int 1)))) [2] (tgN 2) (tOf (e2 (oEq false) (e1 oLen (eNew (nLc (itE (e2V oIx 2 (eC (.int 2)))) [3] (tgN 3) (tOf (e2 (oIn true) (eVar 3) (eBor 1))) (eVar 3)))) (eC (.int 0)))) (eVar 2))))
noncomputable def F_law_enabled : Fn := runB 4 b_law_enabled
noncomputable def b_law_taken : Ms → SR :=
 (sSeq (sSet 2 (eNew (nLc (itE (eVar 0)) [4] (tgN 4) (tOf (e2 (oIn true) (eVar 4) (e2V oIx 1 (eC (.int 2))))) (eVar 4))))
 (sSeq (sSet 3 (eNew (nLc (itE (e2V oIx 1 (eC (.int 3)))) [4] (tgN 4) (tOf (e2 (oIn false) (eVar 4) (eBor 2))) (eVar 4))))
 (sRet (eTup (aCons (e1 oTupOf (eNew (n1q nSortI (nCatV 2 (nLc (itE (e2V oIx 1 (eC (.int 3)))) [4] (tgN 4) (tOf (e2 (oIn true) (eVar 4) (eBor 2))) (eVar 4)))))) (aCons (eIf (tOf (e2 oGt (e1 oLen (eBor 3)) (eC (.int 0)))) (e1q oMinL (fun m => ((eBor 3) m).bind lstOf)) (eC .non)) aNil))))))
noncomputable def F_law_taken : Fn := runB 5 b_law_taken
noncomputable def b_is_enabled : Ms → SR :=
 (sRet (e1q oAll (nLc (itE (e2V oIx 0 (eC (.int 2)))) [2] (tgN 2) tYesD (e2 (oIn false) (eVar 2) (eBor 1)))))
noncomputable def F_is_enabled : Fn := runB 3 b_is_enabled
noncomputable def b_taken : Ms → SR :=
 (sSeq (sSet 2 (eNew (nLc (itE (eVar 1)) [5] (tgN 5) (tOf (e2 (oIn true) (eVar 5) (e2V oIx 0 (eC (.int 2))))) (eVar 5))))
 (sSeq (sSet 3 (eNew (nLc (itE (e2V oIx 0 (eC (.int 3)))) [5] (tgN 5) (tOf (e2 (oIn false) (eVar 5) (eBor 2))) (eVar 5))))
 (sSeq (sSet 4 (e1 oTupOf (eNew (n1q nSortSet (nLst (aStar (qOf (eBor 2)) (aStar (qOf (e2V oIx 0 (eC (.int 3)))) aNil)))))))
 (sRet (eTup (aCons (eVar 4) (aCons (eIf (tTru (eBor 3)) (e2V oIx 3 (eC (.int 0))) (eC .non)) aNil)))))))
noncomputable def F_taken : Fn := runB 6 b_taken
noncomputable def b_leaves : Ms → SR :=
 (sRet (eAnd (e2 (oIn false) (e2 oIx (eC (.tup [.int 1])) (eC (.int 0))) (eBor 0)) (e2 (oEq true) (eVar 0) (eC (.tup [.int 1])))))
noncomputable def F_leaves : Fn := runB 1 b_leaves
noncomputable def lp_law_step_1 : Ms → SR :=
 (sIf (tOf (e2 (oEq false) (e2V oIx 2 (eC (.int 0))) (eVar 1)))
 (sRet (eVar 2))
 sNil)
noncomputable def b_law_step : Ms → SR :=
 (sSeq (sFor (itE (e2V oIx 0 (eC (.int 1)))) (tgN 2) lp_law_step_1)
 (sRet (eC .non)))
noncomputable def F_law_step : Fn := runB 3 b_law_step
noncomputable def b_law_names : Ms → SR :=
 (sRet (eNew (nLc (itE (e2V oIx 0 (eC (.int 1)))) [1] (tgN 1) tYesD (e2V oIx 1 (eC (.int 0))))))
noncomputable def F_law_names : Fn := runB 2 b_law_names
noncomputable def lp_step_of_1 : Ms → SR :=
 (sIf (tOf (e2 (oEq false) (e2V oIx 2 (eC (.int 0))) (eVar 1)))
 (sRet (eVar 2))
 sNil)
noncomputable def b_step_of : Ms → SR :=
 (sSeq (sFor (itE (e2V oIx 0 (eC (.int 1)))) (tgN 2) lp_step_of_1)
 (sRet (eC .non)))
noncomputable def F_step_of : Fn := runB 3 b_step_of
noncomputable def b_is_word_of : Ms → SR :=
 (sRet (eAnd (e1 (oIsi [.str]) (eBor 0)) (e2 (oIn false) (eVar 0) (eBor 1))))
noncomputable def F_is_word_of : Fn := runB 2 b_is_word_of
noncomputable def b_names_of : Ms → SR :=
 (sRet (e1 oTupOf (eNew (nLc (itE (e2V oIx 0 (eC (.int 1)))) [1] (tgN 1) tYesD (e2V oIx 1 (eC (.int 0)))))))
noncomputable def F_names_of : Fn := runB 2 b_names_of
noncomputable def b_open_below : Ms → SR :=
 (sSeq (sIf (tOf (e2 (oIsN false) (eVar 0) (eC .non)))
 (sRet (eVar 1))
 sNil)
 (sSeq (sAsg (tgT [(tgN 3), (tgN 4)]) (eVar 0))
 (sSeq (sSet 2 (e2 oMod (eVar 1) (eVar 3)))
 (sRet (e2 oAdd (e2 oMul (e2 oDiv (eVar 1) (eVar 3)) (e1 oLen (eBor 4))) (e1 oLen (eNew (nLc (itE (eVar 4)) [5] (tgN 5) (tOf (e2 oLt (eVar 5) (eVar 2))) (eVar 5)))))))))
noncomputable def F_open_below : Fn := runB 6 b_open_below
noncomputable def b_is_open_at : Ms → SR :=
 (sRet (eOr (e2 (oIsN false) (eVar 0) (eC .non)) (e2 (oIn false) (e2 oMod (eVar 1) (e2V oIx 0 (eC (.int 0)))) (e2V oIx 0 (eC (.int 1))))))
noncomputable def F_is_open_at : Fn := runB 2 b_is_open_at
noncomputable def b_law_take : Ms → SR :=
 (sSeq (sIx 1 (eC (.int 0)) (e2 oAdd (e2V oIx 1 (eC (.int 0))) (eC (.int 1))))
 (sRet (fCall F_law_draw (aCons (eVar 0) (aCons (e2 oSub (e2V oIx 1 (eC (.int 0))) (eC (.int 1))) (aCons (eVar 2) aNil))))))
noncomputable def F_law_take : Fn := runB 3 b_law_take
noncomputable def b_law_between : Ms → SR :=
 (sRet (eAnd (fCall F_law_whole (aCons (eVar 0) aNil)) (eChain oLe oLe (eVar 1) (eVar 0) (eVar 2))))
noncomputable def F_law_between : Fn := runB 3 b_law_between
noncomputable def lp_law_is_round_1 : Ms → SR :=
 (sSet 1 (eNew (nLc (itE (eVar 1)) [3] (tgN 3) (tOf (e2 oGt (e1 oLen (eNew (nLc (itE (eVar 1)) [4] (tgN 4) (tOf (fCall F_law_feeds (aCons (eVar 3) (aCons (eVar 4) aNil)))) (eVar 4)))) (eC (.int 0)))) (eVar 3))))
noncomputable def b_law_is_round : Ms → SR :=
 (sSeq (sSet 1 (eNew (nLc (itE (eVar 0)) [3] (tgN 3) (tOf (e2 (oIn false) (e2 oIx (e2V oIx 3 (eC (.int 1))) (eC (.int 0))) (eTup (aCons (eC (.str "plain")) (aCons (eC (.str "wait")) aNil))))) (eVar 3))))
 (sSeq (sFor (rg1 (aCons (e1 oLen (eBor 1)) aNil)) (tgN 2) lp_law_is_round_1)
 (sRet (e2 oGt (e1 oLen (eBor 1)) (eC (.int 0))))))
noncomputable def F_law_is_round : Fn := runB 5 b_law_is_round
noncomputable def b_has_own_circle : Ms → SR :=
 (sSeq (sSet 1 (eNew (nLc (itE (eVar 0)) [4] (tgN 4) (tOf (e2 (oIn false) (e2 oIx (e2V oIx 4 (eC (.int 1))) (eC (.int 0))) (eTup (aCons (eC (.str "plain")) (aCons (eC (.str "wait")) aNil))))) (eVar 4))))
 (sSeq (sSet 2 (eC (.bl true)))
 (sSeq (sWhile (tTru (eBor 2))
 (sSeq (sSet 3 (eNew (nLc (itE (eVar 1)) [4] (tgN 4) (tOf (e1q oAny (nLc (itE (eVar 1)) [5] (tgN 5) tYesD (fCall F_leads_to (aCons (eVar 4) (aCons (eVar 5) aNil)))))) (eVar 4))))
 (sSeq (sSet 2 (e2 oLt (e1 oLen (eBor 3)) (e1 oLen (eBor 1))))
 (sSet 1 (eVar 3)))))
 (sRet (e2 oGt (e1 oLen (eBor 1)) (eC (.int 0)))))))
noncomputable def F_has_own_circle : Fn := runB 6 b_has_own_circle
noncomputable def b_is_row : Ms → SR :=
 (sRet (eAnd (fCall F_is_sequence (aCons (eVar 0) aNil)) (eChain oLe oLe (eVar 1) (e1 oLen (eBor 0)) (eVar 2))))
noncomputable def F_is_row : Fn := runB 3 b_is_row
noncomputable def b_is_within : Ms → SR :=
 (sRet (eAnd (fCall F_is_integer (aCons (eVar 0) aNil)) (eChain oLe oLe (eVar 1) (eVar 0) (eVar 2))))
noncomputable def F_is_within : Fn := runB 3 b_is_within
noncomputable def b_frozen (F : Fn) : Ms → SR :=
 (sSeq (sIf (tOf (fCall F_is_sequence (aCons (eVar 0) aNil)))
 (sRet (e1 oTupOf (eNew (nLc (itE (eVar 0)) [1] (tgN 1) tYesD (fCall F (aCons (eVar 1) aNil))))))
 sNil)
 (sRet (eVar 0)))
noncomputable def F_frozen : Nat → Fn
  | 0 => fun _ _ => .stuck
  | k + 1 => runB 2 (b_frozen (F_frozen k))
noncomputable def b_enabled_steps : Ms → SR :=
 (sRet (eNew (nLc (itE (e2V oIx 0 (eC (.int 1)))) [2] (tgN 2) (tOf (fCall F_is_enabled (aCons (eVar 2) (aCons (eVar 1) aNil)))) (eVar 2))))
noncomputable def F_enabled_steps : Fn := runB 3 b_enabled_steps
noncomputable def lp_law_fits_1 : Ms → SR :=
 (sSeq (sSet 4 (fCall F_law_step (aCons (eVar 0) (aCons (e2V oIx 1 (eVar 3)) aNil))))
 (sSeq (sIf (tOrD (tOf (e2 (oIsN false) (eVar 4) (eC .non))) (tOf (e2 (oIn true) (eVar 4) (fCall F_law_enabled (aCons (eVar 0) (aCons (eVar 2) aNil))))))
 (sRet (eTup (aCons (eVar 3) (aCons (eC .non) aNil))))
 sNil)
 (sSeq (sAsg (tgT [(tgN 2), (tgN 5)]) (fCall F_law_taken (aCons (eVar 2) (aCons (eVar 4) aNil))))
 (sIf (tOf (e2 (oIsN true) (eVar 5) (eC .non)))
 (sRet (eTup (aCons (eVar 3) (aCons (eC .non) aNil))))
 sNil))))
noncomputable def b_law_fits : Ms → SR :=
 (sSeq (sSet 2 (eTup (aCons (eC (.int 0)) aNil)))
 (sSeq (sFor (rg1 (aCons (e1 oLen (eBor 1)) aNil)) (tgN 3) lp_law_fits_1)
 (sRet (eTup (aCons (eC .non) (aCons (eVar 2) aNil))))))
noncomputable def F_law_fits : Fn := runB 6 b_law_fits
noncomputable def lp_after_names_1 : Ms → SR :=
 (sSeq (sSet 5 (fCall F_step_of (aCons (eVar 0) (aCons (eVar 4) aNil))))
 (sSeq (sIf (tOrD (tOf (e2 (oIsN false) (eVar 5) (eC .non))) (tNotD (tOf (fCall F_is_enabled (aCons (eVar 5) (aCons (eVar 2) aNil))))))
 (sRet (eTup (aCons (eVar 2) (aCons (eVar 3) aNil))))
 sNil)
 (sSeq (sAsg (tgT [(tgN 6), (tgN 7)]) (fCall F_taken (aCons (eVar 5) (aCons (eVar 2) aNil))))
 (sSeq (sIf (tOf (e2 (oIsN true) (eVar 7) (eC .non)))
 (sRet (eTup (aCons (eVar 2) (aCons (eVar 3) aNil))))
 sNil)
 (sSet 2 (eVar 6))))))
noncomputable def b_after_names : Ms → SR :=
 (sSeq (sSet 2 (eC (.tup [.int 0])))
 (sSeq (sFor (enE (eVar 1)) (tgT [(tgN 3), (tgN 4)]) lp_after_names_1)
 (sRet (eTup (aCons (eVar 2) (aCons (e1 oLen (eBor 1)) aNil))))))
noncomputable def F_after_names : Fn := runB 8 b_after_names
noncomputable def b_checked_names : Ms → SR :=
 (sIf (tOrD (tNotD (tOf (fCall F_is_sequence (aCons (eVar 0) aNil)))) (tNotD (tOf (e1q oAll (nLc (itE (eVar 0)) [1] (tgN 1) tYesD (fCall F_is_word (aCons (eVar 1) aNil)))))))
 (sRaise "BadValue" "at" (eC (.int 1)))
 sNil)
noncomputable def F_checked_names : Fn := runB 2 b_checked_names
noncomputable def b_law_heads : Ms → SR :=
 (sRet (eNew (nLc (itE (fCall F_law_enabled (aCons (eVar 0) (aCons (eVar 1) aNil)))) [2] (tgN 2) tYesD (e2V oIx 2 (eC (.int 0))))))
noncomputable def F_law_heads : Fn := runB 3 b_law_heads
noncomputable def b_due_at : Ms → SR :=
 (sSeq (sIf (tOf (e2 (oIsN false) (eVar 0) (eC .non)))
 (sRet (e2 oAdd (eVar 1) (eVar 2)))
 sNil)
 (sSeq (sAsg (tgT [(tgN 4), (tgN 5)]) (eVar 0))
 (sSeq (sSet 3 (e2 oSub (e2 oAdd (fCall F_open_below (aCons (eVar 0) (aCons (eVar 1) aNil))) (eVar 2)) (eC (.int 1))))
 (sRet (e2 oAdd (e2 oAdd (e2 oMul (e2 oDiv (eVar 3) (e1 oLen (eBor 5))) (eVar 4)) (e2V oIx 5 (e2 oMod (eVar 3) (e1 oLen (eBor 5))))) (eC (.int 1)))))))
noncomputable def F_due_at : Fn := runB 6 b_due_at
noncomputable def b_law_pick : Ms → SR :=
 (sRet (e2V oIx 2 (fCall F_law_take (aCons (eVar 0) (aCons (eVar 1) (aCons (e1 oLen (eBor 2)) aNil))))))
noncomputable def F_law_pick : Fn := runB 3 b_law_pick
noncomputable def b_law_either (F : Fn) : Ms → SR :=
 (sSeq (sIf (tOf (e1 (oIsi [.tuple]) (eBor 2)))
 (sSeq (sSet 3 (eNew (nLc (itE (eVar 2)) [4] (tgN 4) tYesD (fCall F (aCons (eVar 0) (aCons (eVar 1) (aCons (eVar 4) aNil)))))))
 (sRet (eIf (tOf (e2 (oEq false) (fCall F_law_take (aCons (eVar 0) (aCons (eVar 1) (aCons (eC (.int 2)) aNil)))) (eC (.int 0)))) (eVar 3) (e1 oTupOf (eBor 3)))))
 sNil)
 (sRet (eVar 2)))
noncomputable def F_law_either : Nat → Fn
  | 0 => fun _ _ => .stuck
  | k + 1 => runB 5 (b_law_either (F_law_either k))
noncomputable def b_law_rising : Ms → SR :=
 (sSeq (sIf (tOrD (tNotD (tOf (e1 (oIsi [.tuple]) (eBor 0)))) (tOf (e2 oGt (e1 oLen (eNew (nLc (itE (eVar 0)) [4] (tgN 4) (tNotD (tOf (fCall F_law_between (aCons (eVar 4) (aCons (eVar 1) (aCons (eVar 2) aNil)))))) (eVar 4)))) (eC (.int 0)))))
 (sRet (eC (.bl false)))
 sNil)
 (sRet (e2 (oEq false) (e1 oLen (eNew (nLc (rg2 (aCons (eC (.int 1)) (aCons (e1 oLen (eBor 0)) aNil))) [3] (tgN 3) (tOf (e2 oGe (e2V oIx 0 (e2 oSub (eVar 3) (eC (.int 1)))) (e2V oIx 0 (eVar 3)))) (eVar 3)))) (eC (.int 0)))))
noncomputable def F_law_rising : Fn := runB 5 b_law_rising
noncomputable def b_law_calendar : Ms → SR :=
 (sSeq (sIf (tOf (e2 (oEq false) (fCall F_law_take (aCons (eVar 0) (aCons (eVar 1) (aCons (eC (.int 2)) aNil)))) (eC (.int 0))))
 (sRet (eC .non))
 sNil)
 (sSeq (sSet 2 (e2 oAdd (eC (.int 1)) (fCall F_law_take (aCons (eVar 0) (aCons (eVar 1) (aCons (e2 oIx (eNew (nLst (aCons (eC (.int 3)) (aCons (eC (.int 7)) (aCons (eC (.int 28)) aNil))))) (fCall F_law_take (aCons (eVar 0) (aCons (eVar 1) (aCons (eC (.int 3)) aNil))))) aNil))))))
 (sSeq (sSet 3 (eNew (nLc (rg1 (aCons (eVar 2) aNil)) [4] (tgN 4) (tOf (e2 (oEq false) (fCall F_law_take (aCons (eVar 0) (aCons (eVar 1) (aCons (eC (.int 2)) aNil)))) (eC (.int 0)))) (eVar 4))))
 (sRet (eIf (tOf (e2 oGt (e1 oLen (eBor 3)) (eC (.int 0)))) (eTup (aCons (eVar 2) (aCons (e1 oTupOf (eBor 3)) aNil))) (eTup (aCons (eVar 2) (aCons (eTup (aCons (fCall F_law_take (aCons (eVar 0) (aCons (eVar 1) (aCons (eVar 2) aNil)))) aNil)) aNil))))))))
noncomputable def F_law_calendar : Fn := runB 5 b_law_calendar
noncomputable def lp_law_shuffled_1 : Ms → SR :=
 (sExpr (eMut 4 kAppend (aCons (eMut 3 kPopAt (aCons (fCall F_law_take (aCons (eVar 0) (aCons (eVar 1) (aCons (e1 oLen (eBor 3)) aNil)))) aNil)) aNil)))
noncomputable def b_law_shuffled : Ms → SR :=
 (sSeq (sOwn 3 (nRg1 (eVar 2)))
 (sSeq (sOwn 4 (nLst aNil))
 (sSeq (sFor (rg1 (aCons (eVar 2) aNil)) (tgN 5) lp_law_shuffled_1)
 (sRet (eVar 4)))))
noncomputable def F_law_shuffled : Fn := runB 6 b_law_shuffled
noncomputable def b_are_below : Ms → SR :=
 (sSeq (sIf (tOrD (tNotD (tOf (fCall F_is_sequence (aCons (eVar 0) aNil)))) (tNotD (tOf (e1q oAll (nLc (itE (eVar 0)) [3] (tgN 3) tYesD (fCall F_is_within (aCons (eVar 3) (aCons (eC (.int 0)) (aCons (e2 oSub (eVar 1) (eC (.int 1))) aNil)))))))))
 (sRet (eC (.bl false)))
 sNil)
 (sRet (e1q oAll (nLc (rg2 (aCons (eC (.int 1)) (aCons (e1 oLen (eBor 0)) aNil))) [2] (tgN 2) tYesD (e2 oLt (e2V oIx 0 (e2 oSub (eVar 2) (eC (.int 1)))) (e2V oIx 0 (eVar 2)))))))
noncomputable def F_are_below : Fn := runB 4 b_are_below
noncomputable def b_is_task_kind : Ms → SR :=
 (sSeq (sIf (tOrD (tOf (e2 (oEq true) (e1 oLen (eBor 0)) (eC (.int 5)))) (tOrD (tNotD (tOf (fCall F_is_word (aCons (e2V oIx 0 (eC (.int 1))) aNil)))) (tNotD (tOf (fCall F_is_within (aCons (e2V oIx 0 (eC (.int 2))) (aCons (eC (.int 1)) (aCons (eC (.int 5)) aNil))))))))
 (sRet (eC (.bl false)))
 sNil)
 (sRet (eAnd (fCall F_is_within (aCons (e2V oIx 0 (eC (.int 3))) (aCons (eC (.int 1)) (aCons (eC (.int 1000)) aNil)))) (eOr (e2 (oIsN false) (e2V oIx 0 (eC (.int 4))) (eC .non)) (fCall F_is_word (aCons (e2V oIx 0 (eC (.int 4))) aNil))))))
noncomputable def F_is_task_kind : Fn := runB 1 b_is_task_kind
noncomputable def lp_wrong_steps_1 : Ms → SR :=
 (sSeq (sAsg (tgT [(tgN 4), (tgN 5)]) (fCall F_taken (aCons (eVar 3) (aCons (eVar 1) aNil))))
 (sIf (tOf (e2 (oIsN true) (eVar 5) (eC .non)))
 (sExpr (eMut 2 kAppend (aCons (eTup (aCons (e2V oIx 3 (eC (.int 0))) (aCons (eC (.str "doubled")) aNil))) aNil)))
 (sIf (tOf (fCall F_leaves (aCons (eVar 4) aNil)))
 (sExpr (eMut 2 kAppend (aCons (eTup (aCons (e2V oIx 3 (eC (.int 0))) (aCons (eC (.str "left")) aNil))) aNil)))
 sNil)))
noncomputable def b_wrong_steps : Ms → SR :=
 (sSeq (sOwn 2 (nLst aNil))
 (sSeq (sFor (itE (fCall F_enabled_steps (aCons (eVar 0) (aCons (eVar 1) aNil)))) (tgN 3) lp_wrong_steps_1)
 (sRet (eNew (n1q nSortI (fun m => ((eBor 2) m).bind lstOf))))))
noncomputable def F_wrong_steps : Fn := runB 6 b_wrong_steps
noncomputable def lp_moves_from_1 : Ms → SR :=
 (sSeq (sAsg (tgT [(tgN 4), (tgN 5)]) (fCall F_taken (aCons (eVar 3) (aCons (eVar 1) aNil))))
 (sIf (tOf (e2 (oIsN false) (eVar 5) (eC .non)))
 (sExpr (eMut 2 kAppend (aCons (eTup (aCons (e2V oIx 3 (eC (.int 0))) (aCons (eVar 4) aNil))) aNil)))
 sNil))
noncomputable def b_moves_from : Ms → SR :=
 (sSeq (sOwn 2 (nLst aNil))
 (sSeq (sFor (itE (fCall F_enabled_steps (aCons (eVar 0) (aCons (eVar 1) aNil)))) (tgN 3) lp_moves_from_1)
 (sRet (eNew (n1q nSortI (fun m => ((eBor 2) m).bind lstOf))))))
noncomputable def F_moves_from : Fn := runB 6 b_moves_from
noncomputable def b_doubles : Ms → SR :=
 (sSeq (sIf (tOf (e2 (oEq false) (e1 oLen (eBor 1)) (eC (.int 0))))
 (sRet (eC (.bl false)))
 sNil)
 (sSeq (sAsg (tgT [(tgN 3), (tgN 4)]) (fCall F_after_names (aCons (eVar 0) (aCons (eSl (eVar 1) pNone (pSome (e1 oNeg (eC (.int 1))))) aNil))))
 (sSeq (sSet 2 (fCall F_step_of (aCons (eVar 0) (aCons (e2V oIx 1 (e1 oNeg (eC (.int 1)))) aNil))))
 (sSeq (sIf (tOrD (tOf (e2 oLt (eVar 4) (e2 oSub (e1 oLen (eBor 1)) (eC (.int 1))))) (tOrD (tOf (e2 (oIsN false) (eVar 2) (eC .non))) (tNotD (tOf (fCall F_is_enabled (aCons (eVar 2) (aCons (eVar 3) aNil)))))))
 (sRet (eC (.bl false)))
 sNil)
 (sRet (e2 (oIsN true) (e2 oIx (fCall F_taken (aCons (eVar 2) (aCons (eVar 3) aNil))) (eC (.int 1))) (eC .non)))))))
noncomputable def F_doubles : Fn := runB 5 b_doubles
noncomputable def b_need_tick : Ms → SR :=
 (sIf (tNotD (tOf (fCall F_is_within (aCons (eVar 0) (aCons (eC (.int 0)) (aCons (eC (.int 1000000)) aNil))))))
 (sRaise "BadValue" "at" (eVar 1))
 sNil)
noncomputable def F_need_tick : Fn := runB 2 b_need_tick
noncomputable def b_law_wide : Ms → SR :=
 (sSeq (sSet 3 (fCall F_law_take (aCons (eVar 0) (aCons (eVar 1) (aCons (eC (.int 997)) aNil)))))
 (sSeq (sSet 4 (fCall F_law_take (aCons (eVar 0) (aCons (eVar 1) (aCons (eC (.int 997)) aNil)))))
 (sSeq (sSet 5 (fCall F_law_take (aCons (eVar 0) (aCons (eVar 1) (aCons (eC (.int 997)) aNil)))))
 (sRet (e2 oMod (eCall cInt (aCons (e2 oAdd (e2 oAdd (e2 oMul (eVar 3) (eC (.int 994009))) (e2 oMul (eVar 4) (eC (.int 997)))) (eVar 5)) aNil)) (eVar 2))))))
noncomputable def F_law_wide : Fn := runB 6 b_law_wide
noncomputable def lp_law_times_1 : Ms → SR :=
 (sSeq (sSet 5 (eIf (tOf (e2 oGt (fCall F_law_take (aCons (eVar 0) (aCons (eVar 1) (aCons (eC (.int 9)) aNil)))) (eC (.int 0)))) (fCall F_law_take (aCons (eVar 0) (aCons (eVar 1) (aCons (e2 oIx (eNew (nLst (aCons (eC (.int 3)) (aCons (eC (.int 20)) (aCons (eC (.int 900)) aNil))))) (fCall F_law_take (aCons (eVar 0) (aCons (eVar 1) (aCons (eC (.int 3)) aNil))))) aNil)))) (eC (.int 1000))))
 (sExpr (eMut 3 kAppend (aCons (eTup (aCons (eVar 5) (aCons (eCall cMin (aCons (eC (.int 1000)) (aCons (e2 oAdd (eVar 5) (fCall F_law_take (aCons (eVar 0) (aCons (eVar 1) (aCons (e2 oIx (eNew (nLst (aCons (eC (.int 1)) (aCons (eC (.int 4)) (aCons (eC (.int 900)) aNil))))) (fCall F_law_take (aCons (eVar 0) (aCons (eVar 1) (aCons (eC (.int 3)) aNil))))) aNil))))) aNil))) aNil))) aNil))))
noncomputable def b_law_times : Ms → SR :=
 (sSeq (sOwn 3 (nLst aNil))
 (sSeq (sFor (itE (e2V oIx 2 (eC (.int 1)))) (tgN 4) lp_law_times_1)
 (sRet (e1 oTupOf (eBor 3)))))
noncomputable def F_law_times : Fn := runB 6 b_law_times
noncomputable def b_law_handed : Ms → SR :=
 (sSeq (sSet 3 (fCall F_law_take (aCons (eVar 0) (aCons (eVar 1) (aCons (eC (.int 3)) aNil)))))
 (sSeq (sIf (tOf (e2 (oEq false) (eVar 3) (eC (.int 2))))
 (sRet (fCall (F_law_either 10) (aCons (eVar 0) (aCons (eVar 1) (aCons (eVar 2) aNil)))))
 sNil)
 (sRet (eIf (tOf (e2 (oEq false) (eVar 3) (eC (.int 0)))) (fCall (F_law_listed 10) (aCons (eVar 2) aNil)) (eVar 2)))))
noncomputable def F_law_handed : Fn := runB 4 b_law_handed
noncomputable def b_law_is_calendar : Ms → SR :=
 (sSeq (sIf (tOf (e2 (oIsN false) (eVar 0) (eC .non)))
 (sRet (eC (.bl true)))
 sNil)
 (sSeq (sIf (tOrD (tNotD (tOf (e1 (oIsi [.tuple]) (eBor 0)))) (tOrD (tOf (e2 (oEq true) (e1 oLen (eBor 0)) (eC (.int 2)))) (tNotD (tOf (fCall F_law_between (aCons (e2V oIx 0 (eC (.int 0))) (aCons (eC (.int 1)) (aCons (eC (.int 28)) aNil))))))))
 (sRet (eC (.bl false)))
 sNil)
 (sRet (eAnd (fCall F_law_rising (aCons (e2V oIx 0 (eC (.int 1))) (aCons (eC (.int 0)) (aCons (e2 oSub (e2V oIx 0 (eC (.int 0))) (eC (.int 1))) aNil)))) (e2 oGt (e1 oLen (e2V oIx 0 (eC (.int 1)))) (eC (.int 0)))))))
noncomputable def F_law_is_calendar : Fn := runB 1 b_law_is_calendar
noncomputable def b_law_kind : Ms → SR :=
 (sSeq (sSet 3 (fCall F_law_take (aCons (eVar 0) (aCons (eVar 1) (aCons (eC (.int 9)) aNil)))))
 (sSeq (sIf (tAndD (tOf (e2 (oEq false) (eVar 3) (eC (.int 8)))) (tTru (eBor 2)))
 (sRet (eTup (aCons (eC (.str "plain")) aNil)))
 sNil)
 (sSeq (sIf (tOrD (tOf (e2 (oEq false) (eVar 3) (eC (.int 7)))) (tOf (e2 (oEq false) (eVar 3) (eC (.int 8)))))
 (sRet (eTup (aCons (eC (.str "choice")) aNil)))
 sNil)
 (sSeq (sIf (tOf (e2 (oEq false) (eVar 3) (eC (.int 6))))
 (sRet (eTup (aCons (eC (.str "signal")) (aCons (fCall F_law_pick (aCons (eVar 0) (aCons (eVar 1) (aCons (eNew (nLst (aCons (eC (.str "go")) (aCons (eC (.str "stop")) (aCons (eC (.str "pay")) aNil))))) aNil)))) aNil))))
 sNil)
 (sSeq (sIf (tOf (e2 (oEq false) (eVar 3) (eC (.int 5))))
 (sRet (eTup (aCons (eC (.str "wait")) (aCons (e2 oIx (eNew (nLst (aCons (eC (.int 1)) (aCons (eC (.int 3)) (aCons (eC (.int 10)) (aCons (eC (.int 40)) (aCons (eC (.int 300)) (aCons (eC (.int 1000)) aNil)))))))) (fCall F_law_take (aCons (eVar 0) (aCons (eVar 1) (aCons (eC (.int 6)) aNil))))) (aCons (fCall F_law_calendar (aCons (eVar 0) (aCons (eVar 1) aNil))) aNil)))))
 sNil)
 (sSeq (sSet 4 (e2 oIx (eNew (nLst (aCons (eC .non) (aCons (eC (.str "bin")) (aCons (eC (.str "back")) (aCons (eC (.str "pens")) aNil)))))) (fCall F_law_take (aCons (eVar 0) (aCons (eVar 1) (aCons (eC (.int 4)) aNil))))))
 (sSeq (sSet 5 (e2 oIx (eNew (nLst (aCons (eC (.int 1)) (aCons (eC (.int 3)) (aCons (eC (.int 10)) (aCons (eC (.int 50)) (aCons (eC (.int 1000)) aNil))))))) (fCall F_law_take (aCons (eVar 0) (aCons (eVar 1) (aCons (eC (.int 5)) aNil))))))
 (sRet (eTup (aCons (eC (.str "task")) (aCons (fCall F_law_pick (aCons (eVar 0) (aCons (eVar 1) (aCons (eNew (nLst (aCons (eC (.str "pens")) (aCons (eC (.str "ink")) aNil)))) aNil)))) (aCons (e2 oAdd (eC (.int 1)) (fCall F_law_take (aCons (eVar 0) (aCons (eVar 1) (aCons (eC (.int 5)) aNil))))) (aCons (eVar 5) (aCons (eVar 4) aNil))))))))))))))
noncomputable def F_law_kind : Fn := runB 6 b_law_kind
noncomputable def b_law_part_changed (F : Fn) : Ms → SR :=
 (sSeq (sIf (tAndD (tOf (e1 (oIsi [.tuple]) (eBor 2))) (tAndD (tOf (e2 oGt (e1 oLen (eBor 2)) (eC (.int 0)))) (tOf (e2 oGt (fCall F_law_take (aCons (eVar 0) (aCons (eVar 1) (aCons (eC (.int 7)) aNil)))) (eC (.int 0))))))
 (sSeq (sSet 4 (fCall F_law_take (aCons (eVar 0) (aCons (eVar 1) (aCons (e1 oLen (eBor 2)) aNil)))))
 (sRet (e2 oAdd (e2 oAdd (eSl (eVar 2) pNone (pSome (eVar 4))) (eTup (aCons (fCall F (aCons (eVar 0) (aCons (eVar 1) (aCons (e2V oIx 2 (eVar 4)) aNil)))) aNil))) (eSl (eVar 2) (pSome (e2 oAdd (eVar 4) (eC (.int 1)))) pNone))))
 sNil)
 (sSeq (sSet 3 (fCall F_law_take (aCons (eVar 0) (aCons (eVar 1) (aCons (eC (.int 6)) aNil)))))
 (sSeq (sIf (tAndD (tOf (e1 (oIsi [.tuple]) (eBor 2))) (tAndD (tOf (e2 (oEq false) (eVar 3) (eC (.int 0)))) (tOf (e2 oGt (e1 oLen (eBor 2)) (eC (.int 0))))))
 (sRet (e2 oAdd (eVar 2) (eSl (eVar 2) pNone (pSome (eC (.int 1))))))
 sNil)
 (sSeq (sIf (tAndD (tOf (e1 (oIsi [.tuple]) (eBor 2))) (tAndD (tOf (e2 (oEq false) (eVar 3) (eC (.int 1)))) (tOf (e2 oGt (e1 oLen (eBor 2)) (eC (.int 0))))))
 (sRet (eSl (eVar 2) (pSome (eC (.int 1))) pNone))
 sNil)
 (sSeq (sIf (tAndD (tOf (e1 (oIsi [.tuple]) (eBor 2))) (tAndD (tOf (e2 (oEq false) (eVar 3) (eC (.int 2)))) (tOf (e2 oGt (e1 oLen (eBor 2)) (eC (.int 1))))))
 (sRet (e2 oAdd (eSl (eVar 2) (pSome (eC (.int 1))) pNone) (eSl (eVar 2) pNone (pSome (eC (.int 1))))))
 sNil)
 (sSeq (sIf (tOf (e1 (oIsi [.bool]) (eBor 2)))
 (sRet (fCall F_law_pick (aCons (eVar 0) (aCons (eVar 1) (aCons (eNew (nLst (aCons (eC (.bl true)) (aCons (eC (.bl false)) (aCons (eC (.int 0)) (aCons (eC .non) aNil)))))) aNil)))))
 sNil)
 (sSeq (sIf (tAndD (tOf (e1 (oIsi [.int]) (eBor 2))) (tOf (e2 oLt (eVar 3) (eC (.int 4)))))
 (sRet (fCall F_law_pick (aCons (eVar 0) (aCons (eVar 1) (aCons (eNew (nLst (aCons (e2 oAdd (eVar 2) (eC (.int 1))) (aCons (e2 oSub (eVar 2) (eC (.int 1))) (aCons (eC (.int 0)) (aCons (eC (.int 1)) (aCons (eC (.int 8)) (aCons (eC (.int 1000)) (aCons (eC (.int 1001)) (aCons (eC .non) (aCons (eC (.bl true)) aNil))))))))))) aNil)))))
 sNil)
 (sSeq (sIf (tAndD (tOf (e1 (oIsi [.str]) (eBor 2))) (tOf (e2 oLt (eVar 3) (eC (.int 4)))))
 (sRet (fCall F_law_pick (aCons (eVar 0) (aCons (eVar 1) (aCons (eNew (nLst (aCons (eC (.str "plain")) (aCons (eC (.str "choice")) (aCons (eC (.str "signal")) (aCons (eC (.str "task")) (aCons (eC (.str "wait")) (aCons (eC (.str "")) (aCons (eC (.str "A")) (aCons (eC (.str "toolongword")) (aCons (eC (.str "ninechars")) (aCons (eC (.str "eightchr")) (aCons (eC (.str "a b")) (aCons (eVar 2) aNil)))))))))))))) aNil)))))
 sNil)
 (sRet (fCall F_law_pick (aCons (eVar 0) (aCons (eVar 1) (aCons (eNew (nLst (aCons (eC .non) (aCons (eC (.int 7)) (aCons (eC (.bl true)) (aCons (eC (.str "")) (aCons (eTup aNil) (aCons (eTup (aCons (eC (.int 0)) aNil)) (aCons (eTup (aCons (eC (.int 1)) aNil)) (aCons (eTup (aCons (eC (.str "plain")) aNil)) (aCons (eTup (aCons (eC (.str "choice")) aNil)) (aCons (eC (.str "a")) (aCons (eTup (aCons (eC (.int 7)) (aCons (eTup (aCons (eC (.int 0)) (aCons (eC (.int 3)) aNil))) aNil))) aNil))))))))))))) aNil)))))))))))))
noncomputable def F_law_part_changed : Nat → Fn
  | 0 => fun _ _ => .stuck
  | k + 1 => runB 5 (b_law_part_changed (F_law_part_changed k))
noncomputable def b_are_places : Ms → SR :=
 (sRet (eAnd (fCall F_are_below (aCons (eVar 0) (aCons (eVar 1) aNil))) (e2 oGt (e1 oLen (eBor 0)) (eC (.int 0)))))
noncomputable def F_are_places : Fn := runB 2 b_are_places
noncomputable def b_is_calendar : Ms → SR :=
 (sSeq (sIf (tOf (e2 (oIsN false) (eVar 0) (eC .non)))
 (sRet (eC (.bl true)))
 sNil)
 (sSeq (sIf (tOrD (tNotD (tOf (fCall F_is_row (aCons (eVar 0) (aCons (eC (.int 2)) (aCons (eC (.int 2)) aNil)))))) (tNotD (tOf (fCall F_is_within (aCons (e2V oIx 0 (eC (.int 0))) (aCons (eC (.int 1)) (aCons (eC (.int 28)) aNil)))))))
 (sRet (eC (.bl false)))
 sNil)
 (sRet (eAnd (fCall F_are_below (aCons (e2V oIx 0 (eC (.int 1))) (aCons (e2V oIx 0 (eC (.int 0))) aNil))) (e2 oGt (e1 oLen (e2V oIx 0 (eC (.int 1)))) (eC (.int 0)))))))
noncomputable def F_is_calendar : Fn := runB 1 b_is_calendar
noncomputable def lp_law_drawn_run_1 : Ms → SR :=
 (sSeq (sSet 7 (eNew (nLc (itE (fCall F_law_enabled (aCons (eVar 2) (aCons (eVar 4) aNil)))) [8] (tgN 8) (tOf (e2 (oIsN false) (e2 oIx (fCall F_law_taken (aCons (eVar 4) (aCons (eVar 8) aNil))) (eC (.int 1))) (eC .non))) (eVar 8))))
 (sSeq (sIf (tOf (e2 (oEq false) (e1 oLen (eBor 7)) (eC (.int 0))))
 sBrk
 sNil)
 (sSeq (sSet 8 (fCall F_law_pick (aCons (eVar 0) (aCons (eVar 1) (aCons (eVar 7) aNil)))))
 (sSeq (sExpr (eMut 5 kAppend (aCons (e2V oIx 8 (eC (.int 0))) aNil)))
 (sSet 4 (e2 oIx (fCall F_law_taken (aCons (eVar 4) (aCons (eVar 8) aNil))) (eC (.int 0))))))))
noncomputable def b_law_drawn_run : Ms → SR :=
 (sSeq (sSet 4 (eTup (aCons (eC (.int 0)) aNil)))
 (sSeq (sOwn 5 (nLst aNil))
 (sSeq (sFor (rg1 (aCons (eVar 3) aNil)) (tgN 6) lp_law_drawn_run_1)
 (sRet (eTup (aCons (e1 oTupOf (eBor 5)) (aCons (eVar 4) aNil)))))))
noncomputable def F_law_drawn_run : Fn := runB 9 b_law_drawn_run
noncomputable def b_is_marking : Ms → SR :=
 (sRet (fCall F_are_below (aCons (eVar 1) (aCons (e2V oIx 0 (eC (.int 0))) aNil))))
noncomputable def F_is_marking : Fn := runB 2 b_is_marking
noncomputable def lp_first_wrong_1 : Ms → SR :=
 (sSeq (sSet 3 (fCall F_wrong_steps (aCons (eVar 0) (aCons (eVar 2) aNil))))
 (sIf (tTru (eBor 3))
 (sRet (eTup (aCons (e2 oIx (e2V oIx 3 (eC (.int 0))) (eC (.int 1))) (aCons (eTup (aStar (qOf (e2V oIx 1 (eVar 2))) (aCons (e2 oIx (e2V oIx 3 (eC (.int 0))) (eC (.int 0))) aNil))) aNil))))
 sNil))
noncomputable def b_first_wrong : Ms → SR :=
 (sSeq (sFor (itE (eVar 1)) (tgN 2) lp_first_wrong_1)
 (sRet (eC .non)))
noncomputable def F_first_wrong : Fn := runB 4 b_first_wrong
noncomputable def b_stands : Ms → SR :=
 (sSeq (sAsg (tgT [(tgN 6), (tgN 7), (tgN 8)]) (eVar 1))
 (sSeq (sIf (tOrD (tOf (e2 (oEq true) (e2 (oEq false) (eVar 7) (eC (.int 0))) (e2 (oEq false) (eVar 6) (eC (.tup [.int 0]))))) (tOrD (tOf (e2 (oEq true) (e2 (oEq false) (eVar 8) (eC (.int 0))) (e2 (oEq false) (eVar 6) (eC (.tup [.int 1]))))) (tOf (fCall F_leaves (aCons (eVar 6) aNil)))))
 (sRet (eC (.bl false)))
 sNil)
 (sSeq (sIf (tAndD (tOf (e2 (oEq true) (eVar 6) (eC (.tup [.int 0])))) (tOrD (tOf (e2 (oIn true) (eVar 6) (eBor 4))) (tOf (e2 oGe (e2V oIx 4 (eVar 6)) (eVar 7)))))
 (sRet (eC (.bl false)))
 sNil)
 (sSeq (sSet 5 (fCall F_moves_from (aCons (eVar 0) (aCons (eVar 6) aNil))))
 (sSeq (sIf (tOrD (tOf (e2 oLt (e1 oLen (eBor 5)) (e1 oLen (fCall F_enabled_steps (aCons (eVar 0) (aCons (eVar 6) aNil)))))) (tNotD (tOf (e1q oAll (nLc (itE (eVar 5)) [9, 10] (tgT [(tgN 9), (tgN 10)]) tYesD (e2 (oIn false) (eVar 10) (eBor 2)))))))
 (sRet (eC (.bl false)))
 sNil)
 (sRet (eOr (e2 (oEq false) (eVar 6) (eC (.tup [.int 1]))) (e1q oAny (nLc (itE (eVar 5)) [9, 10] (tgT [(tgN 9), (tgN 10)]) tYesD (e2 oLt (e2V oIx 3 (eVar 10)) (eVar 8)))))))))))
noncomputable def F_stands : Fn := runB 11 b_stands
noncomputable def lp_law_mixed_net_1 : Ms → SR :=
 (sSeq (sAsg (tgT [(tgN 9), (tgN 10), (tgN 11)]) (e2V oIx 3 (eVar 7)))
 (sSeq (sSet 8 (eNew (nLc (itE (eTup (aCons (eVar 10) (aCons (eVar 11) aNil)))) [12] (tgN 12) tYesD (e1 oTupOf (eNew (n1q nSortI (nLc (itE (eVar 12)) [13] (tgN 13) tYesD (e2V oIx 4 (eVar 13)))))))))
 (sExpr (eMut 6 kAppend (aCons (eTup (aCons (e2V oIx 5 (eVar 7)) (aCons (eVar 9) (aCons (e2V oIx 8 (eC (.int 0))) (aCons (e2V oIx 8 (eC (.int 1))) aNil))))) aNil)))))
noncomputable def b_law_mixed_net : Ms → SR :=
 (sSeq (sSet 4 (eNew (nCat (eNew (nLst (aCons (eC (.int 0)) (aCons (eC (.int 1)) aNil)))) (nLc (itE (fCall F_law_shuffled (aCons (eVar 0) (aCons (eVar 1) (aCons (e2 oSub (eVar 2) (eC (.int 2))) aNil))))) [7] (tgN 7) tYesD (e2 oAdd (eC (.int 2)) (eVar 7))))))
 (sSeq (sSet 5 (eNew (nLc (itE (fCall F_law_shuffled (aCons (eVar 0) (aCons (eVar 1) (aCons (eC (.int 10)) aNil))))) [7] (tgN 7) tYesD (e2 oIx (eNew (nLst (aCons (eC (.str "ask")) (aCons (eC (.str "asks")) (aCons (eC (.str "call")) (aCons (eC (.str "draw")) (aCons (eC (.str "eat")) (aCons (eC (.str "fly")) (aCons (eC (.str "grow")) (aCons (eC (.str "hunt")) (aCons (eC (.str "iron")) (aCons (eC (.str "jumpings")) aNil)))))))))))) (eVar 7)))))
 (sSeq (sOwn 6 (nLst aNil))
 (sSeq (sFor (rg1 (aCons (e1 oLen (eBor 3)) aNil)) (tgN 7) lp_law_mixed_net_1)
 (sRet (eTup (aCons (eTup (aCons (eVar 2) (aCons (e1 oTupOf (eNew (nLc (itE (fCall F_law_shuffled (aCons (eVar 0) (aCons (eVar 1) (aCons (e1 oLen (eBor 6)) aNil))))) [7] (tgN 7) tYesD (e2V oIx 6 (eVar 7))))) aNil))) (aCons (eSl (eVar 5) pNone (pSome (e1 oLen (eBor 3)))) aNil))))))))
noncomputable def F_law_mixed_net : Fn := runB 14 b_law_mixed_net
noncomputable def b_law_is_kind : Ms → SR :=
 (sSeq (sIf (tOrD (tNotD (tOf (e1 (oIsi [.tuple]) (eBor 0)))) (tOrD (tOf (e2 (oEq false) (e1 oLen (eBor 0)) (eC (.int 0)))) (tNotD (tOf (e1 (oIsi [.str]) (e2V oIx 0 (eC (.int 0))))))))
 (sRet (eC (.bl false)))
 sNil)
 (sSeq (sIf (tOf (e2 (oIn false) (e2V oIx 0 (eC (.int 0))) (eTup (aCons (eC (.str "plain")) (aCons (eC (.str "choice")) aNil)))))
 (sRet (e2 (oEq false) (e1 oLen (eBor 0)) (eC (.int 1))))
 sNil)
 (sSeq (sIf (tOf (e2 (oEq false) (e2V oIx 0 (eC (.int 0))) (eC (.str "signal"))))
 (sRet (eAnd (e2 (oEq false) (e1 oLen (eBor 0)) (eC (.int 2))) (fCall F_law_is_word (aCons (e2V oIx 0 (eC (.int 1))) aNil))))
 sNil)
 (sSeq (sIf (tOf (e2 (oEq false) (e2V oIx 0 (eC (.int 0))) (eC (.str "wait"))))
 (sRet (eAnd (e2 (oEq false) (e1 oLen (eBor 0)) (eC (.int 3))) (eAnd (fCall F_law_between (aCons (e2V oIx 0 (eC (.int 1))) (aCons (eC (.int 1)) (aCons (eC (.int 1000)) aNil)))) (fCall F_law_is_calendar (aCons (e2V oIx 0 (eC (.int 2))) aNil)))))
 sNil)
 (sSeq (sIf (tOrD (tOf (e2 (oEq true) (e2V oIx 0 (eC (.int 0))) (eC (.str "task")))) (tOrD (tOf (e2 (oEq true) (e1 oLen (eBor 0)) (eC (.int 5)))) (tNotD (tOf (fCall F_law_is_word (aCons (e2V oIx 0 (eC (.int 1))) aNil))))))
 (sRet (eC (.bl false)))
 sNil)
 (sRet (eAnd (fCall F_law_between (aCons (e2V oIx 0 (eC (.int 2))) (aCons (eC (.int 1)) (aCons (eC (.int 5)) aNil)))) (eAnd (fCall F_law_between (aCons (e2V oIx 0 (eC (.int 3))) (aCons (eC (.int 1)) (aCons (eC (.int 1000)) aNil)))) (eOr (e2 (oIsN false) (e2V oIx 0 (eC (.int 4))) (eC .non)) (fCall F_law_is_word (aCons (e2V oIx 0 (eC (.int 4))) aNil)))))))))))
noncomputable def F_law_is_kind : Fn := runB 1 b_law_is_kind
noncomputable def lp_law_sound_net_1 : Ms → SR :=
 (sExpr (eMut 3 kAppend (aCons (eNew (nLst (aCons (fCall F_law_kind (aCons (eVar 0) (aCons (eVar 1) (aCons (eC (.bl false)) aNil)))) (aCons (eNew (nLst (aCons (eVar 13) aNil))) (aCons (eNew (nLst (aCons (eVar 14) aNil))) aNil))))) aNil)))
noncomputable def lp_law_sound_net_2 : Ms → SR :=
 (sSeq (sIf (tOrD (tOf (e2 (oEq false) (e1 oLen (eBor 2)) (eC (.int 0)))) (tOf (e2 oGe (e2 oAdd (e1 oLen (eBor 3)) (e1 oLen (eBor 2))) (eC (.int 9)))))
 sBrk
 sNil)
 (sSeq (sAsg (tgT [(tgN 13), (tgN 14)]) (eMut 2 kPopAt (aCons (fCall F_law_take (aCons (eVar 0) (aCons (eVar 1) (aCons (e1 oLen (eBor 2)) aNil)))) aNil)))
 (sSeq (sSet 12 (fCall F_law_take (aCons (eVar 0) (aCons (eVar 1) (aCons (eC (.int 6)) aNil)))))
 (sIf (tAndD (tOf (e2 (oEq false) (eVar 12) (eC (.int 1)))) (tOf (e2 oLt (eVar 4) (eC (.int 8)))))
 (sSeq (sOwn 2 (nCatV 2 (nLst (aCons (eTup (aCons (eVar 13) (aCons (eVar 4) aNil))) (aCons (eTup (aCons (eVar 4) (aCons (eVar 14) aNil))) aNil)))))
 (sSet 4 (e2 oAdd (eVar 4) (eC (.int 1)))))
 (sIf (tAndD (tOf (e2 (oEq false) (eVar 12) (eC (.int 2)))) (tOf (e2 oLt (e2 oAdd (e1 oLen (eBor 3)) (e1 oLen (eBor 2))) (eC (.int 8)))))
 (sFor (rg1 (aCons (eC (.int 2)) aNil)) (tgN 9) lp_law_sound_net_1)
 (sIf (tAndD (tOf (e2 (oEq false) (eVar 12) (eC (.int 3)))) (tAndD (tOf (e2 oLt (eVar 4) (eC (.int 5)))) (tOf (e2 oLt (e2 oAdd (e1 oLen (eBor 3)) (e1 oLen (eBor 2))) (eC (.int 6))))))
 (sSeq (sExpr (eMut 3 kAppend (aCons (eNew (nLst (aCons (fCall F_law_kind (aCons (eVar 0) (aCons (eVar 1) (aCons (eC (.bl false)) aNil)))) (aCons (eNew (nLst (aCons (eVar 13) aNil))) (aCons (eNew (nLst (aCons (eVar 4) (aCons (e2 oAdd (eVar 4) (eC (.int 1))) aNil)))) aNil))))) aNil)))
 (sSeq (sExpr (eMut 3 kAppend (aCons (eNew (nLst (aCons (fCall F_law_kind (aCons (eVar 0) (aCons (eVar 1) (aCons (eC (.bl false)) aNil)))) (aCons (eNew (nLst (aCons (e2 oAdd (eVar 4) (eC (.int 2))) (aCons (e2 oAdd (eVar 4) (eC (.int 3))) aNil)))) (aCons (eNew (nLst (aCons (eVar 14) aNil))) aNil))))) aNil)))
 (sSeq (sOwn 2 (nCatV 2 (nLst (aCons (eTup (aCons (eVar 4) (aCons (e2 oAdd (eVar 4) (eC (.int 2))) aNil))) (aCons (eTup (aCons (e2 oAdd (eVar 4) (eC (.int 1))) (aCons (e2 oAdd (eVar 4) (eC (.int 3))) aNil))) aNil)))))
 (sSet 4 (e2 oAdd (eVar 4) (eC (.int 4)))))))
 (sIf (tAndD (tOf (e2 (oEq false) (eVar 12) (eC (.int 4)))) (tAndD (tOf (e2 oLt (eVar 4) (eC (.int 8)))) (tOf (e2 oLt (e2 oAdd (e1 oLen (eBor 3)) (e1 oLen (eBor 2))) (eC (.int 7))))))
 (sSeq (sExpr (eMut 2 kAppend (aCons (eTup (aCons (eVar 13) (aCons (eVar 4) aNil))) aNil)))
 (sSeq (sExpr (eMut 3 kAppend (aCons (eNew (nLst (aCons (fCall F_law_kind (aCons (eVar 0) (aCons (eVar 1) (aCons (eC (.bl false)) aNil)))) (aCons (eNew (nLst (aCons (eVar 4) aNil))) (aCons (eNew (nLst (aCons (eVar 13) aNil))) aNil))))) aNil)))
 (sSeq (sExpr (eMut 3 kAppend (aCons (eNew (nLst (aCons (fCall F_law_kind (aCons (eVar 0) (aCons (eVar 1) (aCons (eC (.bl false)) aNil)))) (aCons (eNew (nLst (aCons (eVar 4) aNil))) (aCons (eNew (nLst (aCons (eVar 14) aNil))) aNil))))) aNil)))
 (sSet 4 (e2 oAdd (eVar 4) (eC (.int 1)))))))
 (sExpr (eMut 3 kAppend (aCons (eNew (nLst (aCons (fCall F_law_kind (aCons (eVar 0) (aCons (eVar 1) (aCons (eC (.bl false)) aNil)))) (aCons (eNew (nLst (aCons (eVar 13) aNil))) (aCons (eNew (nLst (aCons (eVar 14) aNil))) aNil))))) aNil))))))))))
noncomputable def lp_law_sound_net_3 : Ms → SR :=
 (sExpr (eMut 3 kAppend (aCons (eNew (nLst (aCons (fCall F_law_kind (aCons (eVar 0) (aCons (eVar 1) (aCons (eC (.bl false)) aNil)))) (aCons (eNew (nLst (aCons (eVar 13) aNil))) (aCons (eNew (nLst (aCons (eVar 14) aNil))) aNil))))) aNil)))
noncomputable def lp_law_sound_net_4 : Ms → SR :=
 (sSeq (sAsg (tgT [(tgN 15), (tgN 16), (tgN 17)]) (e2V oIx 3 (e2V oIx 7 (eVar 9))))
 (sExpr (eMut 8 kAppend (aCons (eTup (aCons (e2V oIx 6 (eVar 9)) (aCons (eVar 15) (aCons (e1 oTupOf (eNew (n1q nSortI (fun m => ((eBor 16) m).bind lstOf)))) (aCons (e1 oTupOf (eNew (n1q nSortI (fun m => ((eBor 17) m).bind lstOf)))) aNil))))) aNil))))
noncomputable def lp_law_sound_net_5 : Ms → SR :=
 (sSeq (sIf (tOf (e2 (oEq false) (fCall F_law_take (aCons (eVar 0) (aCons (eVar 1) (aCons (eIf (tOf (e2 (oEq false) (e2V oIx 11 (eC (.int 1))) (eTup (aCons (eC (.str "choice")) aNil)))) (eC (.int 2)) (eC (.int 6))) aNil)))) (eC (.int 0))))
 (sIf (tOf (e2 (oEq false) (e1 oLen (eNew (nLc (itE (eVar 8)) [18] (tgN 18) (tAndD (tOf (e2 (oEq true) (eVar 18) (eVar 11))) (tOf (e2 oGt (e1 oLen (eNew (nLc (itE (e2V oIx 11 (eC (.int 2)))) [19] (tgN 19) (tOf (e2 (oIn false) (eVar 19) (e2V oIx 18 (eC (.int 2))))) (eVar 19)))) (eC (.int 0))))) (eVar 18)))) (eC (.int 0))))
 (sSet 11 (e2 oAdd (eTup (aCons (e2V oIx 11 (eC (.int 0))) (aCons (eTup (aCons (eC (.str "plain")) aNil)) aNil))) (eSl (eVar 11) (pSome (eC (.int 2))) pNone)))
 sNil)
 sNil)
 (sExpr (eMut 10 kAppend (aCons (eVar 11) aNil))))
noncomputable def b_law_sound_net : Ms → SR :=
 (sSeq (sOwn 2 (nLst (aCons (eTup (aCons (eC (.int 0)) (aCons (eC (.int 1)) aNil))) aNil)))
 (sSeq (sOwn 3 (nLst aNil))
 (sSeq (sSet 4 (eC (.int 2)))
 (sSeq (sFor (rg1 (aCons (eC (.int 12)) aNil)) (tgN 5) lp_law_sound_net_2)
 (sSeq (sFor (itE (eVar 2)) (tgT [(tgN 13), (tgN 14)]) lp_law_sound_net_3)
 (sSeq (sSet 6 (eNew (nLc (itE (fCall F_law_shuffled (aCons (eVar 0) (aCons (eVar 1) (aCons (eC (.int 10)) aNil))))) [9] (tgN 9) tYesD (e2 oIx (eNew (nLst (aCons (eC (.str "ask")) (aCons (eC (.str "asks")) (aCons (eC (.str "call")) (aCons (eC (.str "draw")) (aCons (eC (.str "eat")) (aCons (eC (.str "fly")) (aCons (eC (.str "grow")) (aCons (eC (.str "hunt")) (aCons (eC (.str "iron")) (aCons (eC (.str "jumpings")) aNil)))))))))))) (eVar 9)))))
 (sSeq (sSet 7 (fCall F_law_shuffled (aCons (eVar 0) (aCons (eVar 1) (aCons (e1 oLen (eBor 3)) aNil)))))
 (sSeq (sOwn 8 (nLst aNil))
 (sSeq (sFor (rg1 (aCons (e1 oLen (eBor 3)) aNil)) (tgN 9) lp_law_sound_net_4)
 (sSeq (sOwn 10 (nLst aNil))
 (sSeq (sFor (itE (eVar 8)) (tgN 11) lp_law_sound_net_5)
 (sSeq (sIf (tOf (fCall F_law_is_round (aCons (eVar 10) aNil)))
 (sOwn 10 (nLc (itE (eVar 10)) [11] (tgN 11) tYesD (e2 oAdd (eTup (aCons (e2V oIx 11 (eC (.int 0))) (aCons (eIf (tOf (e2 (oEq false) (e2 oIx (e2V oIx 11 (eC (.int 1))) (eC (.int 0))) (eC (.str "wait")))) (eTup (aCons (eC (.str "choice")) aNil)) (e2V oIx 11 (eC (.int 1)))) aNil))) (eSl (eVar 11) (pSome (eC (.int 2))) pNone))))
 sNil)
 (sRet (eTup (aCons (eVar 4) (aCons (e1 oTupOf (eBor 10)) aNil))))))))))))))))
noncomputable def F_law_sound_net : Fn := runB 20 b_law_sound_net
noncomputable def b_law_spoilt : Ms → SR :=
 (sSeq (sOwn 3 (qOf (e2V oIx 2 (eC (.int 1)))))
 (sSeq (sSet 4 (fCall F_law_take (aCons (eVar 0) (aCons (eVar 1) (aCons (eC (.int 6)) aNil)))))
 (sSeq (sSet 5 (fCall F_law_take (aCons (eVar 0) (aCons (eVar 1) (aCons (eCall cMax (aCons (eC (.int 1)) (aCons (e1 oLen (eBor 3)) aNil))) aNil)))))
 (sSeq (sSet 6 (fCall F_law_take (aCons (eVar 0) (aCons (eVar 1) (aCons (e2V oIx 2 (eC (.int 0))) aNil)))))
 (sSeq (sIf (tAndD (tOf (e2 (oEq false) (eVar 4) (eC (.int 0)))) (tOf (e2 oGt (e1 oLen (eBor 3)) (eC (.int 0)))))
 (sExpr (eMut 3 kPopAt (aCons (eVar 5) aNil)))
 (sIf (tAndD (tOf (e2 (oEq false) (eVar 4) (eC (.int 1)))) (tOf (e2 oGt (e1 oLen (eBor 3)) (eC (.int 0)))))
 (sIx 3 (eVar 5) (e2 oAdd (eSl (e2V oIx 3 (eVar 5)) pNone (pSome (eC (.int 3)))) (eTup (aCons (fCall F_law_toggled (aCons (e2 oIx (e2V oIx 3 (eVar 5)) (eC (.int 3))) (aCons (eVar 6) aNil))) aNil))))
 (sIf (tAndD (tOf (e2 (oEq false) (eVar 4) (eC (.int 2)))) (tAndD (tOf (e2 oGt (e1 oLen (eBor 3)) (eC (.int 0)))) (tOf (e2 (oEq true) (eVar 6) (eC (.int 1))))))
 (sIx 3 (eVar 5) (e2 oAdd (e2 oAdd (eSl (e2V oIx 3 (eVar 5)) pNone (pSome (eC (.int 2)))) (eTup (aCons (fCall F_law_toggled (aCons (e2 oIx (e2V oIx 3 (eVar 5)) (eC (.int 2))) (aCons (eVar 6) aNil))) aNil))) (eSl (e2V oIx 3 (eVar 5)) (pSome (eC (.int 3))) pNone)))
 (sIf (tAndD (tOf (e2 (oEq false) (eVar 4) (eC (.int 3)))) (tOf (e2 oLt (e1 oLen (eBor 3)) (eC (.int 10)))))
 (sExpr (eMut 3 kInsert (aCons (eVar 5) (aCons (eTup (aCons (eC (.str "zero")) (aCons (fCall F_law_kind (aCons (eVar 0) (aCons (eVar 1) (aCons (eC (.bl false)) aNil)))) (aCons (eTup (aCons (eC (.int 0)) aNil)) (aCons (eTup (aCons (eVar 6) aNil)) aNil))))) aNil))))
 (sIf (tAndD (tOf (e2 (oEq false) (eVar 4) (eC (.int 4)))) (tOf (e2 oLt (e1 oLen (eBor 3)) (eC (.int 10)))))
 (sExpr (eMut 3 kAppend (aCons (eTup (aCons (eC (.str "zero")) (aCons (fCall F_law_kind (aCons (eVar 0) (aCons (eVar 1) (aCons (eC (.bl false)) aNil)))) (aCons (eTup (aCons (eIf (tOf (e2 (oEq true) (eVar 6) (eC (.int 1)))) (eCall cMin (aCons (eVar 6) (aCons (e2 oSub (e2V oIx 2 (eC (.int 0))) (eC (.int 1))) aNil))) (eC (.int 0))) aNil)) (aCons (eTup (aCons (eC (.int 1)) aNil)) aNil))))) aNil)))
 (sRet (eTup (aCons (eCall cMin (aCons (eC (.int 8)) (aCons (e2 oAdd (e2V oIx 2 (eC (.int 0))) (eC (.int 1))) aNil))) (aCons (e2V oIx 2 (eC (.int 1))) aNil)))))))))
 (sRet (eTup (aCons (e2V oIx 2 (eC (.int 0))) (aCons (e1 oTupOf (eBor 3)) aNil)))))))))
noncomputable def F_law_spoilt : Fn := runB 7 b_law_spoilt
noncomputable def b_is_kind : Ms → SR :=
 (sSeq (sIf (tOrD (tNotD (tOf (fCall F_is_row (aCons (eVar 0) (aCons (eC (.int 1)) (aCons (eC (.int 5)) aNil)))))) (tNotD (tOf (e1 (oIsi [.str]) (e2V oIx 0 (eC (.int 0)))))))
 (sRet (eC (.bl false)))
 sNil)
 (sSeq (sIf (tOrD (tOf (e2 (oEq false) (e2V oIx 0 (eC (.int 0))) (eC (.str "plain")))) (tOf (e2 (oEq false) (e2V oIx 0 (eC (.int 0))) (eC (.str "choice")))))
 (sRet (e2 (oEq false) (e1 oLen (eBor 0)) (eC (.int 1))))
 sNil)
 (sSeq (sIf (tOf (e2 (oEq false) (e2V oIx 0 (eC (.int 0))) (eC (.str "signal"))))
 (sRet (eAnd (e2 (oEq false) (e1 oLen (eBor 0)) (eC (.int 2))) (fCall F_is_word (aCons (e2V oIx 0 (eC (.int 1))) aNil))))
 sNil)
 (sSeq (sIf (tOf (e2 (oEq false) (e2V oIx 0 (eC (.int 0))) (eC (.str "wait"))))
 (sRet (eAnd (e2 (oEq false) (e1 oLen (eBor 0)) (eC (.int 3))) (eAnd (fCall F_is_within (aCons (e2V oIx 0 (eC (.int 1))) (aCons (eC (.int 1)) (aCons (eC (.int 1000)) aNil)))) (fCall F_is_calendar (aCons (e2V oIx 0 (eC (.int 2))) aNil)))))
 sNil)
 (sRet (eAnd (e2 (oEq false) (e2V oIx 0 (eC (.int 0))) (eC (.str "task"))) (fCall F_is_task_kind (aCons (eVar 0) aNil))))))))
noncomputable def F_is_kind : Fn := runB 1 b_is_kind
noncomputable def b_checked_marking : Ms → SR :=
 (sSeq (sIf (tNotD (tOf (fCall F_is_marking (aCons (eVar 0) (aCons (eVar 1) aNil)))))
 (sRaise "BadValue" "at" (eVar 2))
 sNil)
 (sRet (fCall (F_frozen 10) (aCons (eVar 1) aNil))))
noncomputable def F_checked_marking : Fn := runB 3 b_checked_marking
noncomputable def b_is_triple : Ms → SR :=
 (sSeq (sIf (tOrD (tNotD (tOf (fCall F_is_row (aCons (eVar 1) (aCons (eC (.int 3)) (aCons (eC (.int 3)) aNil)))))) (tNotD (tOf (fCall F_is_marking (aCons (eVar 0) (aCons (e2V oIx 1 (eC (.int 0))) aNil))))))
 (sRet (eC (.bl false)))
 sNil)
 (sRet (eAnd (fCall F_is_within (aCons (e2V oIx 1 (eC (.int 1))) (aCons (eC (.int 0)) (aCons (eC (.int 1000000)) aNil)))) (fCall F_is_within (aCons (e2V oIx 1 (eC (.int 2))) (aCons (eC (.int 0)) (aCons (eC (.int 1000000)) aNil)))))))
noncomputable def F_is_triple : Fn := runB 2 b_is_triple
noncomputable def b_need_calendar : Ms → SR :=
 (sSeq (sIf (tNotD (tOf (fCall F_is_calendar (aCons (eVar 0) aNil))))
 (sRaise "BadValue" "at" (eC (.int 0)))
 sNil)
 (sRet (fCall (F_frozen 10) (aCons (eVar 0) aNil))))
noncomputable def F_need_calendar : Fn := runB 1 b_need_calendar
noncomputable def lp_law_machine_1 : Ms → SR :=
 (sSeq (sSet 5 (eIf (tOf (e2 oLt (eVar 4) (eC (.int 2)))) (eC (.int 0)) (e2 oIx (eNew (nLst (aCons (eC (.int 0)) (aCons (eC (.int 2)) (aCons (eC (.int 3)) (aCons (e2 oAdd (eC (.int 2)) (fCall F_law_take (aCons (eVar 0) (aCons (eVar 1) (aCons (e2 oSub (eVar 2) (eC (.int 2))) aNil))))) aNil)))))) (fCall F_law_take (aCons (eVar 0) (aCons (eVar 1) (aCons (eC (.int 4)) aNil)))))))
 (sSeq (sSet 6 (eIf (tOf (e2 (oEq false) (fCall F_law_take (aCons (eVar 0) (aCons (eVar 1) (aCons (eC (.int 5)) aNil)))) (eC (.int 0)))) (eC (.int 1)) (e2 oAdd (eC (.int 2)) (fCall F_law_take (aCons (eVar 0) (aCons (eVar 1) (aCons (e2 oSub (eVar 2) (eC (.int 2))) aNil)))))))
 (sSeq (sSet 7 (eOr (e2 oGt (fCall F_law_take (aCons (eVar 0) (aCons (eVar 1) (aCons (eC (.int 4)) aNil)))) (eC (.int 0))) (e2 (oIn false) (e2 oSub (eVar 2) (eC (.int 1))) (eTup (aCons (eVar 6) (aCons (eVar 5) aNil))))))
 (sExpr (eMut 3 kAppend (aCons (eTup (aCons (eTup (aCons (eC (.str "choice")) aNil)) (aCons (eNew (nLst (aCons (eVar 5) aNil))) (aCons (eIf (tTru (eBor 7)) (eNew (nLst (aCons (eVar 6) aNil))) (eNew (nLst (aCons (eVar 6) (aCons (e2 oSub (eVar 2) (eC (.int 1))) aNil))))) aNil)))) aNil))))))
noncomputable def b_law_machine : Ms → SR :=
 (sSeq (sSet 2 (e2 oAdd (eC (.int 4)) (fCall F_law_take (aCons (eVar 0) (aCons (eVar 1) (aCons (eC (.int 4)) aNil))))))
 (sSeq (sOwn 3 (nLst aNil))
 (sSeq (sFor (rg1 (aCons (e2 oAdd (eC (.int 4)) (fCall F_law_take (aCons (eVar 0) (aCons (eVar 1) (aCons (eC (.int 5)) aNil))))) aNil)) (tgN 4) lp_law_machine_1)
 (sRet (e2 oIx (fCall F_law_mixed_net (aCons (eVar 0) (aCons (eVar 1) (aCons (eVar 2) (aCons (eVar 3) aNil))))) (eC (.int 0)))))))
noncomputable def F_law_machine : Fn := runB 8 b_law_machine
noncomputable def lp_law_stocked_1 : Ms → SR :=
 (sSeq (sIf (tAndD (tOf (e2 oGt (eVar 3) (eC (.int 1)))) (tOf (e2 (oEq false) (fCall F_law_take (aCons (eVar 0) (aCons (eVar 1) (aCons (eC (.int 3)) aNil)))) (eC (.int 0)))))
 (sExpr (eMut 4 kAppend (aCons (eVar 6) aNil)))
 sNil)
 (sIf (tAndD (tOf (e2 (oEq true) (eVar 5) (eNew (nLst (aCons (eC (.int 1)) aNil))))) (tOf (e2 oLt (fCall F_law_take (aCons (eVar 0) (aCons (eVar 1) (aCons (eC (.int 5)) aNil)))) (eIf (tOf (e2 (oIn false) (eVar 6) (eBor 4))) (eC (.int 3)) (eC (.int 1))))))
 (sExpr (eMut 5 kAppend (aCons (eVar 6) aNil)))
 sNil))
noncomputable def lp_law_stocked_2 : Ms → SR :=
 (sSeq (sSet 4 (eIf (tOf (e2 oLt (eVar 3) (eC (.int 2)))) (eNew (nLst (aCons (eC (.int 0)) aNil))) (eNew (nLst (aCons (e2 oAdd (eC (.int 2)) (fCall F_law_take (aCons (eVar 0) (aCons (eVar 1) (aCons (eC (.int 2)) aNil))))) aNil)))))
 (sSeq (sSet 5 (eIf (tAndD (tOf (e2 oGt (eVar 3) (eC (.int 2)))) (tOf (e2 (oEq false) (fCall F_law_take (aCons (eVar 0) (aCons (eVar 1) (aCons (eC (.int 5)) aNil)))) (eC (.int 0))))) (eNew (nLst (aCons (eC (.int 1)) aNil))) (eNew (nLst (aCons (e2 oAdd (eC (.int 2)) (fCall F_law_take (aCons (eVar 0) (aCons (eVar 1) (aCons (eC (.int 2)) aNil))))) aNil)))))
 (sSeq (sFor (itE (eTup (aCons (eC (.int 4)) (aCons (eC (.int 5)) (aCons (eC (.int 6)) aNil))))) (tgN 6) lp_law_stocked_1)
 (sExpr (eMut 2 kAppend (aCons (eTup (aCons (eTup (aCons (eC (.str "choice")) aNil)) (aCons (eVar 4) (aCons (eVar 5) aNil)))) aNil))))))
noncomputable def b_law_stocked : Ms → SR :=
 (sSeq (sOwn 2 (nLst aNil))
 (sSeq (sFor (rg1 (aCons (e2 oAdd (eC (.int 4)) (fCall F_law_take (aCons (eVar 0) (aCons (eVar 1) (aCons (eC (.int 5)) aNil))))) aNil)) (tgN 3) lp_law_stocked_2)
 (sRet (e2 oIx (fCall F_law_mixed_net (aCons (eVar 0) (aCons (eVar 1) (aCons (eC (.int 7)) (aCons (eVar 2) aNil))))) (eC (.int 0))))))
noncomputable def F_law_stocked : Fn := runB 7 b_law_stocked
noncomputable def lp_law_is_net_1 : Ms → SR :=
 (sIf (tOrD (tNotD (tOf (fCall F_law_rising (aCons (eVar 3) (aCons (eC (.int 0)) (aCons (e2 oSub (e2V oIx 0 (eC (.int 0))) (eC (.int 1))) aNil)))))) (tOf (e2 (oEq false) (e1 oLen (eBor 3)) (eC (.int 0)))))
 (sRet (eC (.bl false)))
 sNil)
noncomputable def lp_law_is_net_2 : Ms → SR :=
 (sSeq (sIf (tOrD (tNotD (tOf (e1 (oIsi [.tuple]) (eBor 2)))) (tOrD (tOf (e2 (oEq true) (e1 oLen (eBor 2)) (eC (.int 4)))) (tOrD (tNotD (tOf (fCall F_law_is_word (aCons (e2V oIx 2 (eC (.int 0))) aNil)))) (tOrD (tOf (e2 (oIn false) (e2V oIx 2 (eC (.int 0))) (eBor 1))) (tNotD (tOf (fCall F_law_is_kind (aCons (e2V oIx 2 (eC (.int 1))) aNil))))))))
 (sRet (eC (.bl false)))
 sNil)
 (sSeq (sExpr (eMut 1 kAppend (aCons (e2V oIx 2 (eC (.int 0))) aNil)))
 (sSeq (sFor (itE (eSl (eVar 2) (pSome (eC (.int 2))) pNone)) (tgN 3) lp_law_is_net_1)
 (sIf (tOf (e2 (oIn false) (eC (.int 1)) (e2V oIx 2 (eC (.int 2)))))
 (sRet (eC (.bl false)))
 sNil))))
noncomputable def lp_law_is_net_3 : Ms → SR :=
 (sIf (tAndD (tOf (e2 (oEq false) (e2V oIx 2 (eC (.int 1))) (eTup (aCons (eC (.str "plain")) aNil)))) (tAndD (tOf (e2 (oEq true) (eVar 4) (eVar 2))) (tOf (e2 oGt (e1 oLen (eNew (nLc (itE (e2V oIx 2 (eC (.int 2)))) [5] (tgN 5) (tOf (e2 (oIn false) (eVar 5) (e2V oIx 4 (eC (.int 2))))) (eVar 5)))) (eC (.int 0))))))
 (sRet (eC (.bl false)))
 sNil)
noncomputable def lp_law_is_net_4 : Ms → SR :=
 (sFor (itE (e2V oIx 0 (eC (.int 1)))) (tgN 4) lp_law_is_net_3)
noncomputable def b_law_is_net : Ms → SR :=
 (sSeq (sIf (tOrD (tNotD (tOf (e1 (oIsi [.tuple]) (eBor 0)))) (tOrD (tOf (e2 (oEq true) (e1 oLen (eBor 0)) (eC (.int 2)))) (tNotD (tOf (fCall F_law_between (aCons (e2V oIx 0 (eC (.int 0))) (aCons (eC (.int 2)) (aCons (eC (.int 8)) aNil))))))))
 (sRet (eC (.bl false)))
 sNil)
 (sSeq (sIf (tOrD (tNotD (tOf (e1 (oIsi [.tuple]) (e2V oIx 0 (eC (.int 1)))))) (tOf (e2 oGt (e1 oLen (e2V oIx 0 (eC (.int 1)))) (eC (.int 10)))))
 (sRet (eC (.bl false)))
 sNil)
 (sSeq (sOwn 1 (nLst aNil))
 (sSeq (sFor (itE (e2V oIx 0 (eC (.int 1)))) (tgN 2) lp_law_is_net_2)
 (sSeq (sFor (itE (e2V oIx 0 (eC (.int 1)))) (tgN 2) lp_law_is_net_4)
 (sRet (eNot (fCall F_law_is_round (aCons (e2V oIx 0 (eC (.int 1))) aNil)))))))))
noncomputable def F_law_is_net : Fn := runB 6 b_law_is_net
noncomputable def b_is_step : Ms → SR :=
 (sSeq (sIf (tOrD (tNotD (tOf (fCall F_is_row (aCons (eVar 0) (aCons (eC (.int 4)) (aCons (eC (.int 4)) aNil)))))) (tOrD (tNotD (tOf (fCall F_is_word (aCons (e2V oIx 0 (eC (.int 0))) aNil)))) (tNotD (tOf (fCall F_is_kind (aCons (e2V oIx 0 (eC (.int 1))) aNil))))))
 (sRet (eC (.bl false)))
 sNil)
 (sRet (eAnd (fCall F_are_places (aCons (e2V oIx 0 (eC (.int 2))) (aCons (eVar 1) aNil))) (eAnd (fCall F_are_places (aCons (e2V oIx 0 (eC (.int 3))) (aCons (eVar 1) aNil))) (e2 (oIn true) (e2 oIx (eC (.tup [.int 1])) (eC (.int 0))) (e2V oIx 0 (eC (.int 2))))))))
noncomputable def F_is_step : Fn := runB 2 b_is_step
noncomputable def b_due : Ms → SR :=
 (sSeq (sSet 3 (fCall F_need_calendar (aCons (eVar 0) aNil)))
 (sSeq (sExpr (fCall F_need_tick (aCons (eVar 1) (aCons (eC (.int 1)) aNil))))
 (sSeq (sIf (tNotD (tOf (fCall F_is_within (aCons (eVar 2) (aCons (eC (.int 1)) (aCons (eC (.int 1000)) aNil))))))
 (sRaise "BadValue" "at" (eC (.int 2)))
 sNil)
 (sRet (fCall F_due_at (aCons (eVar 3) (aCons (eVar 1) (aCons (eVar 2) aNil))))))))
noncomputable def F_due : Fn := runB 4 b_due
noncomputable def b_is_open : Ms → SR :=
 (sSeq (sSet 2 (fCall F_need_calendar (aCons (eVar 0) aNil)))
 (sSeq (sExpr (fCall F_need_tick (aCons (eVar 1) (aCons (eC (.int 1)) aNil))))
 (sRet (fCall F_is_open_at (aCons (eVar 2) (aCons (eVar 1) aNil))))))
noncomputable def F_is_open : Fn := runB 3 b_is_open
noncomputable def b_open_ticks : Ms → SR :=
 (sSeq (sSet 3 (fCall F_need_calendar (aCons (eVar 0) aNil)))
 (sSeq (sExpr (fCall F_need_tick (aCons (eVar 1) (aCons (eC (.int 1)) aNil))))
 (sSeq (sExpr (fCall F_need_tick (aCons (eVar 2) (aCons (eC (.int 2)) aNil))))
 (sRet (eCall cMax (aCons (eC (.int 0)) (aCons (e2 oSub (fCall F_open_below (aCons (eVar 3) (aCons (eVar 2) aNil))) (fCall F_open_below (aCons (eVar 3) (aCons (eVar 1) aNil)))) aNil)))))))
noncomputable def F_open_ticks : Fn := runB 4 b_open_ticks
noncomputable def b_law_spoilt_net : Ms → SR :=
 (sSeq (sSet 3 (fCall F_law_spoilt (aCons (eVar 0) (aCons (eVar 1) (aCons (eVar 2) aNil)))))
 (sRet (eIf (tOf (fCall F_law_is_net (aCons (eVar 3) aNil))) (eVar 3) (eVar 2))))
noncomputable def F_law_spoilt_net : Fn := runB 4 b_law_spoilt_net
noncomputable def b_is_net_shaped : Ms → SR :=
 (sSeq (sIf (tOrD (tNotD (tOf (fCall F_is_row (aCons (eVar 0) (aCons (eC (.int 2)) (aCons (eC (.int 2)) aNil)))))) (tNotD (tOf (fCall F_is_within (aCons (e2V oIx 0 (eC (.int 0))) (aCons (eC (.int 2)) (aCons (eC (.int 8)) aNil)))))))
 (sRet (eC (.bl false)))
 sNil)
 (sSeq (sSet 1 (e2V oIx 0 (eC (.int 1))))
 (sSeq (sIf (tOrD (tNotD (tOf (fCall F_is_row (aCons (eVar 1) (aCons (eC (.int 0)) (aCons (eC (.int 10)) aNil)))))) (tNotD (tOf (e1q oAll (nLc (itE (eVar 1)) [2] (tgN 2) tYesD (fCall F_is_step (aCons (eVar 2) (aCons (e2V oIx 0 (eC (.int 0))) aNil))))))))
 (sRet (eC (.bl false)))
 sNil)
 (sSeq (sIf (tOf (e2 oLt (e1q lenSetS (nLc (itE (eVar 1)) [2] (tgN 2) tYesD (e2V oIx 2 (eC (.int 0))))) (e1 oLen (eBor 1))))
 (sRet (eC (.bl false)))
 sNil)
 (sRet (eAnd (eNot (fCall F_share_ins (aCons (eVar 1) aNil))) (eNot (fCall F_has_own_circle (aCons (eVar 1) aNil)))))))))
noncomputable def F_is_net_shaped : Fn := runB 3 b_is_net_shaped
noncomputable def lp_law_net_1 : Ms → SR :=
 (sSeq (sSet 9 (eNew (nLc (rg1 (aCons (eVar 5) aNil)) [11] (tgN 11) (tAndD (tOf (e2 (oEq false) (fCall F_law_take (aCons (eVar 0) (aCons (eVar 1) (aCons (eC (.int 3)) aNil)))) (eC (.int 0)))) (tOrD (tOf (e2 (oEq false) (eVar 8) (eC (.int 1)))) (tOf (e2 (oEq true) (eVar 11) (eC (.int 1)))))) (eVar 11))))
 (sExpr (eMut 7 kAppend (aCons (eIf (tOf (e2 oGt (e1 oLen (eBor 9)) (eC (.int 0)))) (e1 oTupOf (eBor 9)) (eTup (aCons (eC (.int 0)) aNil))) aNil))))
noncomputable def lp_law_net_2 : Ms → SR :=
 (sSeq (sOwn 7 (nLst aNil))
 (sSeq (sFor (rg1 (aCons (eC (.int 2)) aNil)) (tgN 8) lp_law_net_1)
 (sExpr (eMut 6 kAppend (aCons (eTup (aCons (e2V oIx 4 (eVar 3)) (aCons (fCall F_law_kind (aCons (eVar 0) (aCons (eVar 1) (aCons (eC (.bl false)) aNil)))) (aCons (e2V oIx 7 (eC (.int 0))) (aCons (e2V oIx 7 (eC (.int 1))) aNil))))) aNil)))))
noncomputable def lp_law_net_3 : Ms → SR :=
 (sSet 2 (fCall F_law_spoilt_net (aCons (eVar 0) (aCons (eVar 1) (aCons (eVar 2) aNil)))))
noncomputable def b_law_net : Ms → SR :=
 (sSeq (sIf (tOf (e2 (oEq false) (fCall F_law_take (aCons (eVar 0) (aCons (eVar 1) (aCons (eC (.int 7)) aNil)))) (eC (.int 0))))
 (sSeq (sParO 5 6 (e2 oAdd (eC (.int 2)) (fCall F_law_take (aCons (eVar 0) (aCons (eVar 1) (aCons (eC (.int 5)) aNil))))) (nLst aNil))
 (sSeq (sSet 4 (eNew (nLc (itE (fCall F_law_shuffled (aCons (eVar 0) (aCons (eVar 1) (aCons (eC (.int 8)) aNil))))) [3] (tgN 3) tYesD (e2 oIx (eNew (nLst (aCons (eC (.str "ask")) (aCons (eC (.str "asks")) (aCons (eC (.str "call")) (aCons (eC (.str "draw")) (aCons (eC (.str "eat")) (aCons (eC (.str "fly")) (aCons (eC (.str "grow")) (aCons (eC (.str "hunt")) aNil)))))))))) (eVar 3)))))
 (sSeq (sFor (rg1 (aCons (fCall F_law_take (aCons (eVar 0) (aCons (eVar 1) (aCons (eC (.int 8)) aNil)))) aNil)) (tgN 3) lp_law_net_2)
 (sSeq (sIf (tOf (fCall F_law_is_round (aCons (eVar 6) aNil)))
 (sOwn 6 (nLc (itE (eVar 6)) [10] (tgN 10) tYesD (e2 oAdd (eTup (aCons (e2V oIx 10 (eC (.int 0))) (aCons (eTup (aCons (eC (.str "choice")) aNil)) aNil))) (eSl (eVar 10) (pSome (eC (.int 2))) pNone))))
 sNil)
 (sRet (eTup (aCons (eVar 5) (aCons (e1 oTupOf (eBor 6)) aNil))))))))
 sNil)
 (sSeq (sSet 2 (fCall F_law_sound_net (aCons (eVar 0) (aCons (eVar 1) aNil))))
 (sSeq (sFor (rg1 (aCons (e2 oIx (eNew (nLst (aCons (eC (.int 0)) (aCons (eC (.int 0)) (aCons (eC (.int 1)) (aCons (eC (.int 1)) (aCons (eC (.int 2)) (aCons (eC (.int 3)) aNil)))))))) (fCall F_law_take (aCons (eVar 0) (aCons (eVar 1) (aCons (eC (.int 6)) aNil))))) aNil)) (tgN 3) lp_law_net_3)
 (sRet (eVar 2)))))
noncomputable def F_law_net : Fn := runB 12 b_law_net
noncomputable def b_is_net : Ms → SR :=
 (sRet (fCall F_is_net_shaped (aCons (eVar 0) aNil)))
noncomputable def F_is_net : Fn := runB 1 b_is_net
noncomputable def b_checked_net : Ms → SR :=
 (sSeq (sIf (tNotD (tOf (fCall F_is_net_shaped (aCons (eVar 0) aNil))))
 (sRaise "BadValue" "at" (eVar 1))
 sNil)
 (sRet (fCall (F_frozen 10) (aCons (eVar 0) aNil))))
noncomputable def F_checked_net : Fn := runB 2 b_checked_net
noncomputable def b_enabled : Ms → SR :=
 (sSeq (sSet 2 (fCall F_checked_net (aCons (eVar 0) (aCons (eC (.int 0)) aNil))))
 (sRet (e1 oTupOf (eNew (nLc (itE (fCall F_enabled_steps (aCons (eVar 2) (aCons (fCall F_checked_marking (aCons (eVar 2) (aCons (eVar 1) (aCons (eC (.int 1)) aNil)))) aNil)))) [3] (tgN 3) tYesD (e2V oIx 3 (eC (.int 0))))))))
noncomputable def F_enabled : Fn := runB 4 b_enabled
noncomputable def lp_after_1 : Ms → SR :=
 (sIf (tOf (e2 (oEq false) (e2V oIx 5 (eC (.int 0))) (eVar 2)))
 (sSeq (sAsg (tgT [(tgN 6), (tgN 7)]) (fCall F_taken (aCons (eVar 5) (aCons (eVar 4) aNil))))
 (sSeq (sIf (tOf (e2 (oIsN true) (eVar 7) (eC .non)))
 (sRaise "Doubled" "place" (eVar 7))
 sNil)
 (sRet (eVar 6))))
 sNil)
noncomputable def b_after : Ms → SR :=
 (sSeq (sSet 3 (fCall F_checked_net (aCons (eVar 0) (aCons (eC (.int 0)) aNil))))
 (sSeq (sSet 4 (fCall F_checked_marking (aCons (eVar 3) (aCons (eVar 1) (aCons (eC (.int 1)) aNil)))))
 (sSeq (sFor (itE (fCall F_enabled_steps (aCons (eVar 3) (aCons (eVar 4) aNil)))) (tgN 5) lp_after_1)
 (sRaise "BadValue" "at" (eC (.int 2))))))
noncomputable def F_after : Fn := runB 8 b_after
noncomputable def b_fits : Ms → SR :=
 (sSeq (sSet 2 (fCall F_checked_net (aCons (eVar 0) (aCons (eC (.int 0)) aNil))))
 (sSeq (sExpr (fCall F_checked_names (aCons (eVar 1) aNil)))
 (sSeq (sSet 3 (e2 oIx (fCall F_after_names (aCons (eVar 2) (aCons (eVar 1) aNil))) (eC (.int 1))))
 (sRet (eIf (tOf (e2 (oEq false) (eVar 3) (e1 oLen (eBor 1)))) (eC .non) (eVar 3))))))
noncomputable def F_fits : Fn := runB 4 b_fits
end Wh

namespace Wh
open PySem PySem.Spec PyProof.Rows L2 Wd
/-! what the laws' own helpers compute -/
abbrev dInts (ns : List Int) : List D := ns.map D.int
theorem atI_nat {α : Type} {xs : List α} {i : Int} (h0 : 0 ≤ i) (h1 : i < xs.length) : atI xs i = some (xs[i.toNat]'(by omega)) := by
  unfold atI ixN
  rw [if_pos h0, if_pos h1]
  simp
theorem ixN_nat {n : Nat} {i : Int} (h0 : 0 ≤ i) (h1 : i < n) : ixN n i = some i.toNat := by
  unfold ixN
  rw [if_pos h0, if_pos h1]
/-! ### _law_draw, _law_take -/
def mixD (ns : List Int) (k : Int) : Int := ((ns.getD (k % (ns.length : Int)).toNat 0 * 40692 + k * 7919 + 3) % 2147483399 * 48271 + k) % 2147483647
def dr (ns : List Int) (k lim : Int) : Int := if k < ns.length then ns.getD k.toNat 0 % lim else mixD ns k % lim
theorem dr_nonneg {ns : List Int} {k lim : Int} (h : 0 < lim) : 0 ≤ dr ns k lim := by
  unfold dr
  split <;> exact Int.emod_nonneg _ (by omega)
theorem dr_lt {ns : List Int} {k lim : Int} (h : 0 < lim) : dr ns k lim < lim := by
  unfold dr
  split <;> exact Int.emod_lt_of_pos _ h
theorem draw_eq {ns : List Int} {k lim : Int} {S : Store} (h0 : ns ≠ []) (hk : 0 ≤ k) (hl : 0 < lim) : F_law_draw [.lst (dInts ns), .int k, .int lim] S = .ok (.int (dr ns k lim)) S := by
  have hn : 0 < ns.length := List.length_pos_iff.mpr h0
  have hp : (0 : Int) < ns.length := by omega
  by_cases h : k < ns.length
  · simp [F_law_draw, b_law_draw, ev_run, h, atI_nat, hk, hl, dr]
  · have h1 := Int.emod_nonneg k (b := (ns.length : Int)) (by omega)
    have h2 := Int.emod_lt_of_pos k hp
    simp [F_law_draw, b_law_draw, ev_run, h, atI_nat, hk, hl, dr, hn, h1, h2, mixD]
theorem take_eq {ns : List Int} {k lim : Int} {S : Store} (h0 : ns ≠ []) (hk : 0 ≤ k) (hl : 0 < lim) : F_law_take [.lst (dInts ns), .loc 0, .int lim] (.lst [.int k] :: S) = .ok (.int (dr ns k lim)) (.lst [.int (k + 1)] :: S) := by
  have := draw_eq (ns := ns) (k := k) (lim := lim) (S := .lst [.int (k + 1)] :: S) h0 hk hl
  simp [F_law_take, b_law_take, ev_run, atI_nat, ixN_nat, this]
end Wh

namespace Wh
open PySem PySem.Spec PyProof.Rows L2 Wd
variable {m : Ms} {r : List Sl} {S : Store} {ds : List D} {b : Bool}
/-- a tuple, a list -/
def sq (b : Bool) (ds : List D) : D := if b = true then .tup ds else .lst ds
theorem sq_tup : sq true ds = .tup ds := rfl
theorem sq_lst : sq false ds = .lst ds := rfl
@[simp] theorem sq_items : itemsOf (sq b ds) m = .ok ds m := by cases b <;> rfl
@[simp] theorem sq_it : itOf (sq b ds) m = .ok ds m := by cases b <;> rfl
@[simp] theorem sq_itSq : itSq (sq b ds) m = .ok ds m := by cases b <;> rfl
@[simp] theorem sq_len : oLen (sq b ds) m = .ok (.int ds.length) m := by cases b <;> rfl
@[simp] theorem sq_ix {a : Int} : oIx (sq b ds) (.int a) m = ixK m (atI ds a) := by cases b <;> simp [sq]
@[simp] theorem sq_isN {neg : Bool} : oIsN neg (sq b ds) .non m = .ok (.bl neg) m := by cases b <;> rfl
@[simp] theorem sq_int : isT .int (sq b ds) = false := by cases b <;> rfl
@[simp] theorem sq_bool : isT .bool (sq b ds) = false := by cases b <;> rfl
@[simp] theorem sq_str : isT .str (sq b ds) = false := by cases b <;> rfl
@[simp] theorem sq_list : isT .list (sq b ds) = !b := by cases b <;> rfl
@[simp] theorem sq_tuple : isT .tuple (sq b ds) = b := by cases b <;> rfl
@[simp] theorem sq_tupOf : oTupOf (sq b ds) m = .ok (.tup ds) m := by cases b <;> rfl
@[simp] theorem sq_in {neg : Bool} {d : D} : oIn neg d (sq b ds) m = if flatD d = true ∧ ds.all flatD = true then .ok (.bl (if neg then !inD d ds else inD d ds)) m else if (okEq d = true ∧ okEq (.lst ds) = true) ∧ b = false then .ok (.bl (if neg then !inDD d ds else inDD d ds)) m else .stuck := by cases b <;> simp [sq]
@[simp] theorem sq_sl {lo hi : Option Int} : oSl (sq b ds) lo hi m = .ok (sq b (cutL ds lo hi)) m := by cases b <;> rfl
@[simp] theorem sq_tru : oTru (sq b ds) m = .ok (!ds.isEmpty) m := by cases b <;> rfl
@[simp] theorem sq_gAll {gs : List Tg} : tgT gs (sq b ds) m = gAll gs ds m := by cases b <;> rfl
/-! ### kinds -/
theorem is_integer_int {i : Int} : F_is_integer [.int i] S = .ok (.bl true) S := by simp [F_is_integer, b_is_integer, ev_run]
theorem is_integer_sq : F_is_integer [sq b ds] S = .ok (.bl false) S := by simp [F_is_integer, b_is_integer, ev_run]
def inR (lo hi n : Int) : Bool := decide (lo ≤ n ∧ n ≤ hi)
theorem inR_iff {lo hi n : Int} : inR lo hi n = true ↔ lo ≤ n ∧ n ≤ hi := by simp [inR]
theorem inR_t {lo hi n : Int} (h1 : lo ≤ n) (h2 : n ≤ hi) : inR lo hi n = true := inR_iff.mpr ⟨h1, h2⟩
theorem is_within_int {i lo hi : Int} : F_is_within [.int i, .int lo, .int hi] S = .ok (.bl (inR lo hi i)) S := by
  by_cases h : lo ≤ i <;> simp [F_is_within, b_is_within, ev_run, is_integer_int, h, inR]
theorem is_sequence_sq : F_is_sequence [sq b ds] S = .ok (.bl true) S := by
  cases b <;> simp [F_is_sequence, b_is_sequence, ev_run]
theorem is_sequence_int {i : Int} : F_is_sequence [.int i] S = .ok (.bl false) S := by simp [F_is_sequence, b_is_sequence, ev_run]
theorem is_sequence_str {i : Str} : F_is_sequence [.str i] S = .ok (.bl false) S := by simp [F_is_sequence, b_is_sequence, ev_run]
theorem is_sequence_non : F_is_sequence [.non] S = .ok (.bl false) S := by simp [F_is_sequence, b_is_sequence, ev_run]
theorem is_sequence_bl {i : Bool} : F_is_sequence [.bl i] S = .ok (.bl false) S := by simp [F_is_sequence, b_is_sequence, ev_run]
theorem is_row_sq {lo hi : Int} : F_is_row [sq b ds, .int lo, .int hi] S = .ok (.bl (inR lo hi ds.length)) S := by
  by_cases h : lo ≤ ds.length <;> simp [F_is_row, b_is_row, ev_run, is_sequence_sq, h, inR]
/-- numbers that rise, each below many -/
def risesAt (ns : List Int) (i : Nat) : Bool := decide (ns.getD i 0 < ns.getD (i + 1) 0)
def below (ns : List Int) (many : Int) : Bool := ns.all (inR 0 (many - 1)) && (List.range (ns.length - 1)).all (risesAt ns)
theorem are_below_sq {ns : List Int} {many : Int} (hl : ns.length ≤ 16777216) : F_are_below [sq b (dInts ns), .int many] S = .ok (.bl (below ns many)) S := by
  have e1 : lcD [3] (tgN 3) tYesD (fCall F_is_within (aCons (eVar 3) (aCons (eC (D.int 0)) (aCons (e2 oSub (eVar 1) (eC (D.int 1))) aNil)))) (dInts ns) [] { r := [Sl.val (sq b (dInts ns)), Sl.val (D.int many), Sl.un, Sl.un], S := S } =
      .ok (ns.map fun n => .bl (inR 0 (many - 1) n)) { r := [Sl.val (sq b (dInts ns)), Sl.val (D.int many), Sl.un, Sl.un], S := S } :=
    lcD_of ns (fun n _ => by simp [is_within_int]) hl
  have e2 : lcD [2] (tgN 2) tYesD (Wd.e2 oLt (e2V oIx 0 (Wd.e2 oSub (eVar 2) (eC (D.int 1)))) (e2V oIx 0 (eVar 2))) (rgD 1 ns.length) [] { r := [Sl.val (sq b (dInts ns)), Sl.val (D.int many), Sl.un, Sl.un], S := S } =
      .ok ((List.range (ns.length - 1)).map fun i => .bl (risesAt ns i)) { r := [Sl.val (sq b (dInts ns)), Sl.val (D.int many), Sl.un, Sl.un], S := S } := by
    unfold rgD
    rw [show ((ns.length : Int) - 1).toNat = ns.length - 1 by omega]
    refine lcD_of (enc := fun (i : Nat) => D.int (1 + i)) _ (fun i hi => ?_) (by simp; omega)
    rw [List.mem_range] at hi
    have h1 : (1 + (i : Int)) - 1 = i := by omega
    have h2 : (i : Int) < ns.length := by omega
    have h3 : (1 + (i : Int)) < ns.length := by omega
    have h4 : (1 + (i : Int)).toNat = i + 1 := by omega
    have h5 : i < ns.length := by omega
    have h6 : i + 1 < ns.length := by omega
    simp [atI_nat, h1, h2, h3, h4, h5, h6, show (0 : Int) ≤ 1 + i by omega, risesAt]
  cases hb : ns.all (inR 0 (many - 1)) with
  | false => simp [F_are_below, b_are_below, ev_run, is_sequence_sq, e1, ev_all_map, below, hb]
  | true => simp [F_are_below, b_are_below, ev_run, is_sequence_sq, e1, e2, ev_all_map, below, hb, show (ns.length : Int) ≤ 1000000000 by omega, show -1000000000 ≤ (ns.length : Int) by omega]
end Wh

namespace Wh
open PySem PySem.Spec PyProof.Rows L2 Wd
variable {m : Ms} {r : List Sl} {S : Store} {ds : List D} {b : Bool} {d : D}
/-- data of tuples and lists, k deep at most -/
def OkD : Nat → D → Prop
  | _, .non => True
  | _, .bl _ => True
  | _, .int _ => True
  | _, .str _ => True
  | k + 1, .tup ds => ds.length ≤ 16777216 ∧ ∀ d ∈ ds, OkD k d
  | k + 1, .lst ds => ds.length ≤ 16777216 ∧ ∀ d ∈ ds, OkD k d
  | _, _ => False
/-- all lists made tuples -/
def fz : Nat → D → D
  | k + 1, .tup ds => .tup (ds.map (fz k))
  | k + 1, .lst ds => .tup (ds.map (fz k))
  | _, d => d
theorem fz_sq {k : Nat} : fz (k + 1) (sq b ds) = .tup (ds.map (fz k)) := by cases b <;> rfl
@[simp] theorem fz_int {k : Nat} {i : Int} : fz k (.int i) = .int i := by cases k <;> rfl
@[simp] theorem fz_str {k : Nat} {i : Str} : fz k (.str i) = .str i := by cases k <;> rfl
@[simp] theorem fz_bl {k : Nat} {i : Bool} : fz k (.bl i) = .bl i := by cases k <;> rfl
@[simp] theorem fz_non {k : Nat} : fz k .non = .non := by cases k <;> rfl
theorem OkD_sq {k : Nat} : OkD (k + 1) (sq b ds) ↔ ds.length ≤ 16777216 ∧ ∀ d ∈ ds, OkD k d := by cases b <;> exact Iff.rfl
@[simp] theorem OkD_int {k : Nat} {i : Int} : OkD k (.int i) := by cases k <;> trivial
@[simp] theorem OkD_str {k : Nat} {i : Str} : OkD k (.str i) := by cases k <;> trivial
@[simp] theorem OkD_bl {k : Nat} {i : Bool} : OkD k (.bl i) := by cases k <;> trivial
@[simp] theorem OkD_non {k : Nat} : OkD k .non := by cases k <;> trivial
theorem frozen_sq {k : Nat} (ih : ∀ d ∈ ds, F_frozen k [d] S = .ok (fz (k - 1) d) S) (hl : ds.length ≤ 16777216) : F_frozen (k + 1) [sq b ds] S = .ok (.tup (ds.map (fz (k - 1)))) S := by
  have e1 : lcD [1] (tgN 1) tYesD (fCall (F_frozen k) (aCons (eVar 1) aNil)) ds [] { r := [Sl.val (sq b ds), Sl.un], S := S } = .ok (ds.map (fz (k - 1))) { r := [Sl.val (sq b ds), Sl.un], S := S } := by
    have := lcD_of (vs := [1]) (tg := tgN 1) (t := tYesD) (f := fCall (F_frozen k) (aCons (eVar 1) aNil)) (enc := id) (k := fz (k - 1)) (m := { r := [Sl.val (sq b ds), Sl.un], S := S }) ds (fun d hd => by simp [ih d hd]) hl
    simpa using this
  simp [F_frozen, b_frozen, ev_run, is_sequence_sq, e1]
theorem frozen_ok : ∀ (k : Nat) (d : D), OkD k d → F_frozen (k + 1) [d] S = .ok (fz k d) S
  | k, .non, _ => by simp [F_frozen, b_frozen, ev_run, is_sequence_non]
  | k, .bl _, _ => by simp [F_frozen, b_frozen, ev_run, is_sequence_bl]
  | k, .int _, _ => by simp [F_frozen, b_frozen, ev_run, is_sequence_int]
  | k, .str _, _ => by simp [F_frozen, b_frozen, ev_run, is_sequence_str]
  | k + 1, .tup ds, h => frozen_sq (k := k + 1) (b := true) (fun d hd => frozen_ok k d (h.2 d hd)) h.1
  | k + 1, .lst ds, h => frozen_sq (k := k + 1) (b := false) (fun d hd => frozen_ok k d (h.2 d hd)) h.1
  | 0, .tup _, h => h.elim
  | 0, .lst _, h => h.elim
  | k, .ro _, h => by cases k <;> exact h.elim
  | k, .loc _, h => by cases k <;> exact h.elim
/-! ### what the law hands in: some tuples made lists -/
/-- e is d with some tuples made lists; all of d's rows are tuples -/
def Hand : Nat → D → D → Prop
  | k + 1, .tup ds, e => ∃ b es, e = sq b es ∧ es.length = ds.length ∧ ∀ i (h : i < ds.length) (h' : i < es.length), Hand k ds[i] es[i]
  | _, .tup _, _ => False
  | _, .lst _, _ => False
  | _, .ro _, _ => False
  | _, .loc _, _ => False
  | _, d, e => e = d
theorem Hand.fz : ∀ {k : Nat} {d e : D}, Hand k d e → fz k e = d
  | k, .non, e, h => by cases k <;> (cases h; rfl)
  | k, .bl _, e, h => by cases k <;> (cases h; rfl)
  | k, .int _, e, h => by cases k <;> (cases h; rfl)
  | k, .str _, e, h => by cases k <;> (cases h; rfl)
  | k + 1, .tup ds, e, ⟨b, es, h1, h2, h3⟩ => by
    rw [h1, fz_sq]
    congr 1
    refine List.ext_getElem (by simp [h2]) fun i hi hj => ?_
    rw [List.getElem_map]
    exact Hand.fz (h3 i hj (by simpa using hi))
  | 0, .tup _, _, h => h.elim
  | k, .lst _, _, h => by cases k <;> exact h.elim
  | k, .ro _, _, h => by cases k <;> exact h.elim
  | k, .loc _, _, h => by cases k <;> exact h.elim
theorem Hand.ok : ∀ {k : Nat} {d e : D}, Hand k d e → OkD k d → OkD k e
  | k, .non, e, h, _ => by cases k <;> (cases h; trivial)
  | k, .bl _, e, h, _ => by cases k <;> (cases h; trivial)
  | k, .int _, e, h, _ => by cases k <;> (cases h; trivial)
  | k, .str _, e, h, _ => by cases k <;> (cases h; trivial)
  | k + 1, .tup ds, e, ⟨b, es, h1, h2, h3⟩, ⟨o1, o2⟩ => by
    rw [h1, OkD_sq]
    refine ⟨by omega, fun y hy => ?_⟩
    obtain ⟨i, hi, rfl⟩ := List.mem_iff_getElem.mp hy
    exact (h3 i (by omega) hi).ok (o2 _ (List.getElem_mem ..))
  | 0, .tup _, _, h, _ => h.elim
  | k, .lst _, _, h, _ => by cases k <;> exact h.elim
  | k, .ro _, _, h, _ => by cases k <;> exact h.elim
  | k, .loc _, _, h, _ => by cases k <;> exact h.elim
theorem Hand.tup {k : Nat} {e : D} (h : Hand (k + 1) (.tup ds) e) : ∃ b es, e = sq b es ∧ es.length = ds.length ∧ ∀ i (h : i < ds.length) (h' : i < es.length), Hand k ds[i] es[i] := h
@[simp] theorem Hand_int {k : Nat} {i : Int} {e : D} : Hand k (.int i) e ↔ e = .int i := by cases k <;> exact Iff.rfl
@[simp] theorem Hand_str {k : Nat} {i : Str} {e : D} : Hand k (.str i) e ↔ e = .str i := by cases k <;> exact Iff.rfl
@[simp] theorem Hand_bl {k : Nat} {i : Bool} {e : D} : Hand k (.bl i) e ↔ e = .bl i := by cases k <;> exact Iff.rfl
@[simp] theorem Hand_non {k : Nat} {e : D} : Hand k .non e ↔ e = .non := by cases k <;> exact Iff.rfl
/-- only tuples -/
def Tups : Nat → D → Prop
  | _, .non => True
  | _, .bl _ => True
  | _, .int _ => True
  | _, .str _ => True
  | k + 1, .tup ds => ds.length ≤ 16777216 ∧ ∀ d ∈ ds, Tups k d
  | _, _ => False
theorem Tups.ok : ∀ {k : Nat} {d : D}, Tups k d → OkD k d
  | k, .non, _ => by simp
  | k, .bl _, _ => by simp
  | k, .int _, _ => by simp
  | k, .str _, _ => by simp
  | k + 1, .tup ds, ⟨h1, h2⟩ => ⟨h1, fun d hd => (h2 d hd).ok⟩
  | 0, .tup _, h => h.elim
  | k, .lst _, h => by cases k <;> exact h.elim
  | k, .ro _, h => by cases k <;> exact h.elim
  | k, .loc _, h => by cases k <;> exact h.elim
theorem Tups.self : ∀ {k : Nat} {d : D}, Tups k d → Hand k d d
  | k, .non, _ => by simp
  | k, .bl _, _ => by simp
  | k, .int _, _ => by simp
  | k, .str _, _ => by simp
  | k + 1, .tup ds, ⟨h1, h2⟩ => ⟨true, ds, rfl, rfl, fun i h _ => (h2 _ (List.getElem_mem ..)).self⟩
  | 0, .tup _, h => h.elim
  | k, .lst _, h => by cases k <;> exact h.elim
  | k, .ro _, h => by cases k <;> exact h.elim
  | k, .loc _, h => by cases k <;> exact h.elim
@[simp] theorem Tups_int {k : Nat} {i : Int} : Tups k (.int i) := by cases k <;> trivial
@[simp] theorem Tups_str {k : Nat} {i : Str} : Tups k (.str i) := by cases k <;> trivial
@[simp] theorem Tups_bl {k : Nat} {i : Bool} : Tups k (.bl i) := by cases k <;> trivial
@[simp] theorem Tups_non {k : Nat} : Tups k .non := by cases k <;> trivial
theorem Tups_tup {k : Nat} : Tups (k + 1) (.tup ds) ↔ ds.length ≤ 16777216 ∧ ∀ d ∈ ds, Tups k d := Iff.rfl
/-! _law_listed -/
def lsd : Nat → D → D
  | k + 1, .tup ds => .lst (ds.map (lsd k))
  | _, d => d
theorem listed_ok : ∀ (k : Nat) (d : D), Tups k d → F_law_listed (k + 1) [d] S = .ok (lsd k d) S
  | k, .non, _ => by cases k <;> simp [F_law_listed, b_law_listed, ev_run, lsd]
  | k, .bl _, _ => by cases k <;> simp [F_law_listed, b_law_listed, ev_run, lsd]
  | k, .int _, _ => by cases k <;> simp [F_law_listed, b_law_listed, ev_run, lsd]
  | k, .str _, _ => by cases k <;> simp [F_law_listed, b_law_listed, ev_run, lsd]
  | k + 1, .tup ds, h => by
    have e1 : lcD [1] (tgN 1) tYesD (fCall (F_law_listed (k + 1)) (aCons (eVar 1) aNil)) ds [] { r := [Sl.val (.tup ds), Sl.un], S := S } = .ok (ds.map (lsd k)) { r := [Sl.val (.tup ds), Sl.un], S := S } := by
      have := lcD_of (vs := [1]) (tg := tgN 1) (t := tYesD) (f := fCall (F_law_listed (k + 1)) (aCons (eVar 1) aNil)) (enc := id) (k := lsd k) (m := { r := [Sl.val (.tup ds), Sl.un], S := S }) ds (fun d hd => by simp [listed_ok k d (h.2 d hd)]) h.1
      simpa using this
    rw [F_law_listed]
    simp [b_law_listed, ev_run, e1, lsd]
  | 0, .tup _, h => h.elim
  | k, .lst _, h => by cases k <;> exact h.elim
  | k, .ro _, h => by cases k <;> exact h.elim
  | k, .loc _, h => by cases k <;> exact h.elim
theorem lsd_hand : ∀ {k : Nat} {d : D}, Tups k d → Hand k d (lsd k d)
  | k, .non, _ => by cases k <;> simp [lsd]
  | k, .bl _, _ => by cases k <;> simp [lsd]
  | k, .int _, _ => by cases k <;> simp [lsd]
  | k, .str _, _ => by cases k <;> simp [lsd]
  | k + 1, .tup ds, ⟨h1, h2⟩ => ⟨false, ds.map (lsd k), rfl, by simp, fun i h _ => by rw [List.getElem_map]; exact lsd_hand (h2 _ (List.getElem_mem ..))⟩
  | 0, .tup _, h => h.elim
  | k, .lst _, h => by cases k <;> exact h.elim
  | k, .ro _, h => by cases k <;> exact h.elim
  | k, .loc _, h => by cases k <;> exact h.elim
/-! _law_either -/
theorem either_ok {ns : List Int} (h0 : ns ≠ []) : ∀ (k : Nat) (d : D) (n : Int) (T : Store), Tups k d → 0 ≤ n → ∃ e n', 0 ≤ n' ∧ Hand k d e ∧ F_law_either (k + 1) [.lst (dInts ns), .loc 0, d] (.lst [.int n] :: T) = .ok e (.lst [.int n'] :: T)
  | k, .non, n, T, _, hn => ⟨.non, n, hn, by simp, by simp [F_law_either, b_law_either, ev_run]⟩
  | k, .bl x, n, T, _, hn => ⟨.bl x, n, hn, by simp, by simp [F_law_either, b_law_either, ev_run]⟩
  | k, .int x, n, T, _, hn => ⟨.int x, n, hn, by simp, by simp [F_law_either, b_law_either, ev_run]⟩
  | k, .str x, n, T, _, hn => ⟨.str x, n, hn, by simp, by simp [F_law_either, b_law_either, ev_run]⟩
  | k + 1, .tup ds, n, T, h, hn => by
    obtain ⟨acc, m', e1, n', hn', em, hl, hh⟩ := lcD_st (vs := [4]) (tg := tgN 4) (t := tYesD) (f := fCall (F_law_either (k + 1)) (aCons (eVar 0) (aCons (eVar 1) (aCons (eVar 4) aNil)))) (enc := id)
      (P := fun i acc m => ∃ n' : Int, 0 ≤ n' ∧ m = ⟨[.val (.lst (dInts ns)), .val (.loc 0), .val (.tup ds), .un, .un], .lst [.int n'] :: T⟩ ∧ acc.length = i ∧ ∀ j (h : j < ds.length) (h' : j < acc.length), Hand k ds[j] acc[j])
      ds 0 [] ⟨[.val (.lst (dInts ns)), .val (.loc 0), .val (.tup ds), .un, .un], .lst [.int n] :: T⟩
      (fun i x acc m hi ⟨n1, hn1, em, hl, hh⟩ => by
        have hx : x ∈ ds := List.mem_of_getElem? hi
        obtain ⟨e, n2, hn2, he, ee⟩ := either_ok h0 k x n1 T (h.2 x hx) hn1
        have hi' := (List.getElem?_eq_some_iff.mp hi)
        refine ⟨_, .inl ⟨e, by rw [em]; simp [ee], by have := h.1; have := hi'.1; omega, n2, hn2, rfl, by simp [hl], fun j hj hj' => ?_⟩⟩
        by_cases z : j < acc.length
        · rw [List.getElem_append_left z]; exact hh j hj z
        · have ej : j = i := by simp at hj'; omega
          subst ej
          rw [List.getElem_append_right (by omega)]
          simp only [List.getElem_singleton, hi'.2]
          exact he)
      ⟨n, hn, rfl, rfl, fun j _ hj => by simp at hj⟩
    have e2 := take_eq (ns := ns) (k := n') (lim := 2) (S := T) h0 hn' (by decide)
    simp only [List.map_id] at e1
    subst em
    have hl' : acc.length = ds.length := by omega
    by_cases hz : dr ns n' 2 = 0
    · refine ⟨.lst acc, n' + 1, by omega, ⟨false, acc, rfl, hl', hh⟩, ?_⟩
      rw [F_law_either]
      simp [b_law_either, ev_run, e1, e2, hz]
    · refine ⟨.tup acc, n' + 1, by omega, ⟨true, acc, rfl, hl', hh⟩, ?_⟩
      rw [F_law_either]
      simp [b_law_either, ev_run, e1, e2, hz]
  | 0, .tup _, _, _, h, _ => h.elim
  | k, .lst _, _, _, h, _ => by cases k <;> exact h.elim
  | k, .ro _, _, _, h, _ => by cases k <;> exact h.elim
  | k, .loc _, _, _, h, _ => by cases k <;> exact h.elim
/-! _law_handed -/
theorem handed_ok {ns : List Int} (h0 : ns ≠ []) {d : D} {n : Int} {T : Store} (h : Tups 9 d) (hn : 0 ≤ n) : ∃ e n', 0 ≤ n' ∧ Hand 9 d e ∧ F_law_handed [.lst (dInts ns), .loc 0, d] (.lst [.int n] :: T) = .ok e (.lst [.int n'] :: T) := by
  have e0 := take_eq (ns := ns) (k := n) (lim := 3) (S := T) h0 hn (by decide)
  by_cases h2 : dr ns n 3 = 2
  · obtain ⟨e, n', hn', hh, ee⟩ := either_ok h0 9 d (n + 1) T h (by omega)
    exact ⟨e, n', hn', hh, by simp [F_law_handed, b_law_handed, ev_run, e0, h2, ee]⟩
  · by_cases h1 : dr ns n 3 = 0
    · exact ⟨lsd 9 d, n + 1, by omega, lsd_hand h, by simp [F_law_handed, b_law_handed, ev_run, e0, h1, listed_ok 9 d h]⟩
    · exact ⟨d, n + 1, by omega, h.self, by simp [F_law_handed, b_law_handed, ev_run, e0, h1, h2]⟩
end Wh

namespace Wh
open PySem PySem.Spec PyProof.Rows L2 Wd
variable {m : Ms} {r : List Sl} {S : Store} {ds : List D} {b : Bool} {d : D}
theorem rgD_get {a c : Int} {i : Nat} {d : D} (h : (rgD a c)[i]? = some d) : d = .int (a + (i : Nat)) ∧ (i : Int) < c - a := by
  unfold rgD at h
  rw [List.getElem?_map] at h
  cases e : (List.range (c - a).toNat)[i]? with
  | none => rw [e] at h; cases h
  | some j =>
    rw [e] at h
    have := List.getElem?_eq_some_iff.mp e
    obtain ⟨h1, h2⟩ := this
    rw [List.getElem_range] at h2
    subst h2
    rw [List.length_range] at h1
    exact ⟨(Option.some.inj h).symm, by omega⟩
@[simp] theorem rgD_length {a c : Int} : (rgD a c).length = (c - a).toNat := by simp [rgD]
theorem cut63 {xs : List Int} : (cutL xs none (some 63)).length ≤ 63 := by
  rw [cutL_take (by decide)]
  simp
  omega
/-! ### _law_numbers -/
noncomputable def nbA : Ms → SR := sSeq (sIf (tOf (e2 (oEq false) (eVar 3) (eC (.int 0)))) sBrk sNil)
      (sSeq (sExpr (eMut 1 kAppend (aCons (e2 oMod (eCall cInt (aCons (eVar 3) aNil)) (eC (.int 997))) aNil))) (sSet 3 (e2 oDiv (eVar 3) (eC (.int 997)))))
noncomputable def nbB : Ms → SR := sSeq (sSet 5 (e2 oMod (eCall cInt (aCons (e2 oAdd (e2 oAdd (e2 oMul (eVar 2) (eC (.int 48271))) (e2 oMul (eVar 4) (eC (.int 69621)))) (eC (.int 11))) aNil)) (eC (.int 2147483647))))
      (sExpr (eMut 1 kAppend (aCons (e2 oMod (eCall cInt (aCons (e2 oAdd (e2 oMul (eVar 5) (eC (.int 16807))) (eVar 4)) aNil)) (eC (.int 2147483629))) aNil)))
noncomputable def nbC : Ms → SR := sIf (tOf (e2 oGe (eVar 2) (e2 oPow (eC (.int 10)) (eC (.int 18)))))
     (sSeq (sSet 3 (eVar 2)) (sFor (rg1 (aCons (eC (.int 60)) aNil)) (tgN 4) nbA))
     (sFor (rg1 (aCons (eC (.int 4)) aNil)) (tgN 4) nbB)
theorem numbersA {x0 : Sl} (row : List Int) (cell left : Int) (c4 c5 : Sl) (hr : row.length ≤ 10000000) : ∃ m', forD (tgN 4) nbA (rgD 0 60) ⟨[x0, .own (dInts row), .val (.int cell), .val (.int left), c4, c5], S⟩ = .next m' ∧
      ∃ (row' : List Int) (a3 a4 a5 : Sl), m' = ⟨[x0, .own (dInts row'), .val (.int cell), a3, a4, a5], S⟩ ∧ row'.length ≤ row.length + 60 := by
  obtain ⟨m', e, h⟩ := forD_brk (tg := tgN 4) (F := nbA)
    (P := fun i m => ∃ (row' : List Int) (l : Int) (a4 a5 : Sl), m = ⟨[x0, .own (dInts row'), .val (.int cell), .val (.int l), a4, a5], S⟩ ∧ row'.length ≤ row.length + i)
    (Q := fun m => ∃ (row' : List Int) (l : Int) (a4 a5 : Sl), m = ⟨[x0, .own (dInts row'), .val (.int cell), .val (.int l), a4, a5], S⟩ ∧ row'.length ≤ row.length + 60)
    (rgD 0 60) 0 _ (fun i d m hi ⟨row', l, a4, a5, em, hl⟩ => by
      obtain ⟨rfl, hi60⟩ := rgD_get hi
      subst em
      by_cases hz : l = 0
      · refine .inr ⟨⟨[x0, .own (dInts row'), .val (.int cell), .val (.int l), .val (.int (0 + (i : Nat))), a5], S⟩, by simp [nbA, hz], row', l, _, a5, rfl, by omega⟩
      · refine .inl ⟨⟨[x0, .own (dInts (row' ++ [l % 997])), .val (.int cell), .val (.int (l / 997)), .val (.int (0 + (i : Nat))), a5], S⟩, .inl ?_, _, _, _, a5, rfl, by simp; omega⟩
        simp [nbA, hz, show row'.length < 16777216 by omega])
    ⟨row, left, c4, c5, rfl, by omega⟩
  refine ⟨m', e, ?_⟩
  rcases h with ⟨row', l, a4, a5, em, hl⟩ | ⟨row', l, a4, a5, em, hl⟩
  · exact ⟨row', _, a4, a5, em, by simpa using hl⟩
  · exact ⟨row', _, a4, a5, em, hl⟩
theorem numbersB {x0 : Sl} (row : List Int) (cell : Int) (c3 c4 c5 : Sl) (hr : row.length ≤ 10000000) : ∃ m', forD (tgN 4) nbB (rgD 0 4) ⟨[x0, .own (dInts row), .val (.int cell), c3, c4, c5], S⟩ = .next m' ∧
      ∃ (row' : List Int) (a3 a4 a5 : Sl), m' = ⟨[x0, .own (dInts row'), .val (.int cell), a3, a4, a5], S⟩ ∧ row'.length ≤ row.length + 60 := by
  obtain ⟨m', e, row', a3, a4, a5, em, hl⟩ := forD_inv (tg := tgN 4) (F := nbB)
    (P := fun i m => ∃ (row' : List Int) (a3 a4 a5 : Sl), m = ⟨[x0, .own (dInts row'), .val (.int cell), a3, a4, a5], S⟩ ∧ row'.length ≤ row.length + i)
    (rgD 0 4) 0 _ (fun i d m hi ⟨row', a3, a4, a5, em, hl⟩ => by
      obtain ⟨rfl, hi4⟩ := rgD_get hi
      subst em
      have hb : row'.length < 16777216 := by omega
      refine ⟨⟨[x0, .own (dInts (row' ++ [(((cell * 48271 + (0 + (i : Nat)) * 69621 + 11) % 2147483647) * 16807 + (0 + (i : Nat))) % 2147483629])), .val (.int cell), a3, .val (.int (0 + (i : Nat))), .val (.int ((cell * 48271 + (0 + (i : Nat)) * 69621 + 11) % 2147483647))], S⟩, .inl ?_, _, _, _, _, rfl, by simp; omega⟩
      simp [nbB, hb])
    ⟨row, c3, c4, c5, rfl, by omega⟩
  exact ⟨m', e, row', a3, a4, a5, em, by simp at hl; omega⟩
theorem numbersC {x0 : Sl} (row : List Int) (c : Int) (a3 a4 a5 : Sl) (hr : row.length ≤ 10000000) : ∃ m', nbC ⟨[x0, .own (dInts row), .val (.int c), a3, a4, a5], S⟩ = .next m' ∧
      ∃ (row' : List Int) (a2 a3 a4 a5 : Sl), m' = ⟨[x0, .own (dInts row'), a2, a3, a4, a5], S⟩ ∧ row'.length ≤ row.length + 60 := by
  by_cases hc : (1000000000000000000 : Int) ≤ c
  · obtain ⟨m2, e2, row2, b3, b4, b5, em2, hl2⟩ := numbersA (x0 := x0) (S := S) row c c a4 a5 (by omega)
    exact ⟨m2, by simp [nbC, hc, e2], row2, _, b3, b4, b5, em2, by omega⟩
  · obtain ⟨m2, e2, row2, b3, b4, b5, em2, hl2⟩ := numbersB (x0 := x0) (S := S) row c a3 a4 a5 (by omega)
    exact ⟨m2, by simp [nbC, hc, e2], row2, _, b3, b4, b5, em2, by omega⟩
theorem numbers_b : b_law_numbers = sSeq (sOwn 1 (nLst aNil)) (sSeq (sFor (itE (eSl (eVar 0) pNone (pSome (eC (.int 63))))) (tgN 2) nbC)
    (sSeq (sIf (tOf (e2 (oEq false) (e1 oLen (eBor 1)) (eC (.int 0)))) (sExpr (eMut 1 kAppend (aCons (eC (.int 0)) aNil))) sNil) (sRet (eVar 1)))) := rfl
theorem numbers_ok {xs : List Int} {S : Store} : ∃ ns : List Int, ns ≠ [] ∧ ns.length ≤ 4100 ∧ F_law_numbers [.ro (dInts xs)] S = .ok (.lst (dInts ns)) S := by
  obtain ⟨m', e, row', a2, a3, a4, a5, em, hl⟩ := forD_inv (tg := tgN 2) (F := nbC)
    (P := fun i m => ∃ (row' : List Int) (a2 a3 a4 a5 : Sl), m = ⟨[.val (.ro (dInts xs)), .own (dInts row'), a2, a3, a4, a5], S⟩ ∧ row'.length ≤ 60 * i)
    (dInts (cutL xs none (some 63))) 0 ⟨[.val (.ro (dInts xs)), .own (dInts []), .un, .un, .un, .un], S⟩ (fun i d m hi ⟨row', a2, a3, a4, a5, em, hl⟩ => by
      subst em
      have hi63 : i < 63 := by
        have h1 := (List.getElem?_eq_some_iff.mp hi).1
        have h2 := cut63 (xs := xs)
        rw [List.length_map] at h1
        omega
      obtain ⟨c, rfl⟩ : ∃ c, d = .int c := by
        rw [List.getElem?_map] at hi
        cases ec : (cutL xs none (some 63))[i]? with
        | none => rw [ec] at hi; cases hi
        | some c => rw [ec] at hi; exact ⟨c, (Option.some.inj hi).symm⟩
      obtain ⟨m2, e2, row2, b2, b3, b4, b5, em2, hl2⟩ := numbersC (x0 := .val (.ro (dInts xs))) (S := S) row' c a3 a4 a5 (by omega)
      exact ⟨m2, .inl (by simp [e2]), row2, b2, b3, b4, b5, em2, by omega⟩)
    ⟨[], .un, .un, .un, .un, rfl, by simp⟩
  have hl2 : row'.length ≤ 3780 := by
    have := cut63 (xs := xs)
    simp at hl
    omega
  subst em
  have e' := e
  simp only [List.map_nil] at e'
  by_cases hz : row' = []
  · subst hz
    exact ⟨[0], by simp, by simp, by simp [F_law_numbers, numbers_b, ev_run, cutL_map, e']⟩
  · exact ⟨row', hz, by omega, by simp [F_law_numbers, numbers_b, ev_run, cutL_map, e', hz]⟩
end Wh

namespace Wh
open PySem PySem.Spec PyProof.Rows L2 Wd
variable {m : Ms} {r : List Sl} {S T : Store} {ds : List D} {b : Bool} {d : D}
@[simp] theorem atI_0 {α : Type} {a : α} {xs : List α} : atI (a :: xs) 0 = some a := by
  rw [atI_nat (by decide) (by simp)]
  rfl
@[simp] theorem atI_1 {α : Type} {a b : α} {xs : List α} : atI (a :: b :: xs) 1 = some b := by
  rw [atI_nat (by decide) (by simp; omega)]
  rfl
@[simp] theorem atI_2 {α : Type} {a b c : α} {xs : List α} : atI (a :: b :: c :: xs) 2 = some c := by
  rw [atI_nat (by decide) (by simp; omega)]
  rfl
@[simp] theorem atI_3 {α : Type} {a b c e : α} {xs : List α} : atI (a :: b :: c :: e :: xs) 3 = some e := by
  rw [atI_nat (by decide) (by simp; omega)]
  rfl
@[simp] theorem atI_4 {α : Type} {a b c e f : α} {xs : List α} : atI (a :: b :: c :: e :: f :: xs) 4 = some f := by
  rw [atI_nat (by decide) (by simp; omega)]
  rfl
theorem atI_ints {ns : List Int} {i : Int} (h0 : 0 ≤ i) (h1 : i < ns.length) : atI (dInts ns) i = some (.int (ns.getD i.toNat 0)) := by
  rw [atI_nat h0 (by simpa using h1)]
  simp [List.getD, show i.toNat < ns.length by omega]
/-- a choice of four -/
theorem pick4 {a b c e : D} {i : Int} (h0 : 0 ≤ i) (h1 : i < 4) : ∃ x, atI [a, b, c, e] i = some x ∧ (x = a ∨ x = b ∨ x = c ∨ x = e) := by
  have : i = 0 ∨ i = 1 ∨ i = 2 ∨ i = 3 := by omega
  rcases this with h | h | h | h <;> subst h <;> simp
/-! ### _law_shuffled -/
def upto (k : Nat) : List Int := (List.range k).map fun i : Nat => (i : Int)
@[simp] theorem upto_length {k : Nat} : (upto k).length = k := by simp [upto]
theorem upto_mem {k : Nat} {i : Int} : i ∈ upto k ↔ 0 ≤ i ∧ i < k := by
  unfold upto
  rw [List.mem_map]
  constructor
  · rintro ⟨j, hj, rfl⟩
    rw [List.mem_range] at hj
    omega
  · rintro ⟨h1, h2⟩
    exact ⟨i.toNat, List.mem_range.mpr (by omega), by omega⟩
theorem upto_nodup {k : Nat} : (upto k).Nodup := by
  unfold upto
  exact List.Pairwise.map _ (fun a b h z => h (by have : (a : Int) = b := z; omega)) List.nodup_range
theorem rgD_upto {k : Nat} : rgD 0 (k : Int) = dInts (upto k) := by
  unfold rgD dInts upto
  rw [List.map_map, show ((k : Int) - 0).toNat = k by omega]
  congr 1
  funext i
  simp
theorem erase_perm {l : List Int} {i : Nat} (h : i < l.length) : (l[i] :: l.eraseIdx i).Perm l := by
  induction l generalizing i with
  | nil => simp at h
  | cons a l ih =>
    cases i with
    | zero => exact List.Perm.refl _
    | succ i =>
      have h' : i < l.length := by simpa using h
      exact (List.Perm.swap a l[i] _).trans ((ih h').cons a)
noncomputable def shA : Ms → SR := sExpr (eMut 4 kAppend (aCons (eMut 3 kPopAt (aCons (fCall F_law_take (aCons (eVar 0) (aCons (eVar 1) (aCons (e1 oLen (eBor 3)) aNil)))) aNil)) aNil))
theorem eraseIdx_ints {ns : List Int} {i : Nat} : (dInts ns).eraseIdx i = dInts (ns.eraseIdx i) := by
  induction ns generalizing i with
  | nil => rfl
  | cons n ns ih =>
    cases i with
    | zero => rfl
    | succ i => simpa using ih
theorem shuffled_ok {ns : List Int} (h0 : ns ≠ []) {many n : Int} (hm0 : 0 ≤ many) (hm : many ≤ 1000000) (hn : 0 ≤ n) : ∃ (ps : List Int) (n' : Int), 0 ≤ n' ∧ ps.Perm (upto many.toNat) ∧
    F_law_shuffled [.lst (dInts ns), .loc 0, .int many] (.lst [.int n] :: T) = .ok (.lst (dInts ps)) (.lst [.int n'] :: T) := by
  obtain ⟨k, rfl⟩ : ∃ k : Nat, many = k := ⟨many.toNat, by omega⟩
  obtain ⟨m', e, left, made, n', a5, em, hn', hl, hp⟩ := forD_inv (tg := tgN 5) (F := shA)
    (P := fun i m => ∃ (left made : List Int) (n' : Int) (a5 : Sl), m = ⟨[.val (.lst (dInts ns)), .val (.loc 0), .val (.int k), .own (dInts left), .own (dInts made), a5], .lst [.int n'] :: T⟩ ∧ 0 ≤ n' ∧ left.length + i = k ∧ (made ++ left).Perm (upto k))
    (rgD 0 k) 0 ⟨[.val (.lst (dInts ns)), .val (.loc 0), .val (.int k), .own (dInts (upto k)), .own (dInts []), .un], .lst [.int n] :: T⟩
    (fun i d m hi ⟨left, made, n1, a5, em, hn1, hl, hp⟩ => by
      obtain ⟨rfl, hik⟩ := rgD_get hi
      subst em
      have hl0 : 0 < left.length := by omega
      have hlim : (0 : Int) < left.length := by omega
      have e1 := take_eq (ns := ns) (k := n1) (lim := left.length) (S := T) h0 hn1 hlim
      have d0 := dr_nonneg (ns := ns) (k := n1) hlim
      have d1 := dr_lt (ns := ns) (k := n1) hlim
      have hj : (dr ns n1 left.length).toNat < left.length := by omega
      have hlen : made.length + left.length = k := by
        have := hp.length_eq
        simpa using this
      have hmade : made.length < 16777216 := by omega
      refine ⟨⟨[.val (.lst (dInts ns)), .val (.loc 0), .val (.int k), .own (dInts (left.eraseIdx (dr ns n1 left.length).toNat)), .own (dInts (made ++ [left[(dr ns n1 left.length).toNat]])), .val (.int (0 + (i : Nat)))], .lst [.int (n1 + 1)] :: T⟩, .inl ?_, left.eraseIdx (dr ns n1 left.length).toNat, made ++ [left[(dr ns n1 left.length).toNat]], n1 + 1, _, rfl, by omega, ?_, ?_⟩
      · have h63 : dr ns n1 left.length < 9223372036854775808 := by omega
        have h62 : -9223372036854775808 ≤ dr ns n1 left.length := by omega
        simp [shA, e1, ixN_nat d0 d1, hj, h62, h63, eraseIdx_ints, hmade]
      · rw [List.length_eraseIdx_of_lt hj]; omega
      · refine List.Perm.trans ?_ hp
        rw [List.append_assoc]
        exact List.Perm.append_left _ (erase_perm hj))
    ⟨_, [], n, .un, rfl, hn, by simp, by simp⟩
  have hl0 : left = [] := by
    have : left.length = 0 := by rw [Nat.zero_add, rgD_length] at hl; omega
    exact List.length_eq_zero_iff.mp this
  subst hl0
  subst em
  refine ⟨made, n', hn', by simpa using hp, ?_⟩
  rw [← rgD_upto] at e
  have e2 : (k : Int) ≤ 1000000000 := by omega
  have e3 : -1000000000 ≤ (k : Int) := by omega
  have e4 : -1000000 ≤ (k : Int) := by omega
  have eb : b_law_shuffled = sSeq (sOwn 3 (nRg1 (eVar 2))) (sSeq (sOwn 4 (nLst aNil)) (sSeq (sFor (rg1 (aCons (eVar 2) aNil)) (tgN 5) shA) (sRet (eVar 4)))) := rfl
  simp only [List.map_nil] at e
  simp [F_law_shuffled, eb, ev_run, e, e2, e3, e4, hm]
/-! ### _law_so -/
theorem so_int {k : Nat} {a c : Int} : F_law_so (k + 1) [.int a, .int c] S = .ok (.bl (decide (a = c))) S := by
  rw [F_law_so]
  simp [b_law_so, ev_run]
theorem so_bl {k : Nat} {a c : Bool} : F_law_so (k + 1) [.bl a, .bl c] S = .ok (.bl (decide (a = c))) S := by
  rw [F_law_so]
  simp [b_law_so, ev_run]
/-! ### calendars -/
abbrev cal (L : Int) (fs : List Int) : D := .tup [.int L, .tup (dInts fs)]
def openBelow (L : Int) (fs : List Int) (n : Int) : Int := n / L * fs.length + (fs.filter fun p => decide (p < n % L)).length
def dueAt (L : Int) (fs : List Int) (first ticks : Int) : Int :=
  (openBelow L fs first + ticks - 1) / fs.length * L + fs.getD ((openBelow L fs first + ticks - 1) % fs.length).toNat 0 + 1
theorem open_below_eq {L n : Int} {fs : List Int} (hL : 0 < L) (hL2 : L ≤ 28) (hf : fs.length ≤ 28) : F_open_below [cal L fs, .int n] S = .ok (.int (openBelow L fs n)) S := by
  have e1 : lcD [5] (tgN 5) (tOf (e2 oLt (eVar 5) (eVar 2))) (eVar 5) (dInts fs) [] ⟨[.val (cal L fs), .val (.int n), .val (.int (n % L)), .val (.int L), .val (.tup (dInts fs)), .un], S⟩ =
      .ok ((fs.filter fun p => decide (p < n % L)).map D.int) ⟨[.val (cal L fs), .val (.int n), .val (.int (n % L)), .val (.int L), .val (.tup (dInts fs)), .un], S⟩ :=
    lcD_if fs (fun p _ => by by_cases h : p < n % L <;> simp [h]) (by omega)
  have hb : L < 1073741824 := by omega
  have hm : ((-18446744073709551616 : Int) < (fs.length : Int)) ∧ (fs.length : Int) < 18446744073709551616 := by omega
  simp [F_open_below, b_open_below, ev_run, hL, hb, e1, hm, openBelow]
theorem due_at_eq {L first ticks : Int} {fs : List Int} (hL : 0 < L) (hL2 : L ≤ 28) (hf : fs.length ≤ 28) (h0 : fs ≠ []) : F_due_at [cal L fs, .int first, .int ticks] S = .ok (.int (dueAt L fs first ticks)) S := by
  have hp : 0 < fs.length := List.length_pos_iff.mpr h0
  have hp' : (0 : Int) < fs.length := by omega
  have hb : (fs.length : Int) < 1073741824 := by omega
  have hm : ((-18446744073709551616 : Int) < L) ∧ L < 18446744073709551616 := by omega
  have a0 := Int.emod_nonneg (openBelow L fs first + ticks - 1) (b := (fs.length : Int)) (by omega)
  have a1 := Int.emod_lt_of_pos (openBelow L fs first + ticks - 1) hp'
  have e1 := open_below_eq (S := S) (n := first) hL hL2 hf
  unfold cal at e1
  simp [F_due_at, b_due_at, ev_run, e1, hp, hb, hm, atI_ints a0 a1, dueAt]
theorem is_open_at_eq {L n : Int} {fs : List Int} (hL : 0 < L) : F_is_open_at [cal L fs, .int n] S = .ok (.bl (decide (n % L ∈ fs))) S := by
  simp [F_is_open_at, b_is_open_at, ev_run, hL]
/-- a calendar that is one -/
structure Cal (L : Int) (fs : List Int) : Prop where
  lo : 1 ≤ L
  hi : L ≤ 28
  be : below fs L = true
  ne : fs ≠ []
theorem below_mem {fs : List Int} {L : Int} (h : below fs L = true) {p : Int} (hp : p ∈ fs) : 0 ≤ p ∧ p < L := by
  unfold below at h
  have := List.all_eq_true.mp (Bool.and_eq_true_iff.mp h).1 p hp
  rw [inR_iff] at this
  omega
theorem below_rise {fs : List Int} {L : Int} (h : below fs L = true) : ∀ (i j : Nat), i < j → j < fs.length → fs.getD i 0 < fs.getD j 0 := by
  unfold below at h
  have hr := List.all_eq_true.mp (Bool.and_eq_true_iff.mp h).2
  intro i j hij hj
  induction j with
  | zero => omega
  | succ j ih =>
    have h1 : fs.getD j 0 < fs.getD (j + 1) 0 := by
      have := hr j (List.mem_range.mpr (by omega))
      exact of_decide_eq_true this
    by_cases e : i = j
    · subst e; exact h1
    · exact Int.lt_trans (ih (by omega) (by omega)) h1
theorem below_len {fs : List Int} {L : Int} (h : below fs L = true) (hL : L ≤ 28) : fs.length ≤ 28 := by
  have key : ∀ j : Nat, j < fs.length → (j : Int) ≤ fs.getD j 0 := by
    intro j
    induction j with
    | zero =>
      intro hj
      have := (below_mem h (p := fs.getD 0 0) (by simp [List.getD, hj])).1
      exact this
    | succ j ih =>
      intro hj
      have h1 := ih (by omega)
      have h2 := below_rise h j (j + 1) (by omega) hj
      omega
  by_cases hz : fs.length = 0
  · omega
  · have h1 := key (fs.length - 1) (by omega)
    have h2 := (below_mem h (p := fs.getD (fs.length - 1) 0) (by simp [List.getD, show fs.length - 1 < fs.length by omega])).2
    omega
theorem cal_tups {L : Int} {fs : List Int} (h : Cal L fs) {k : Nat} : Tups (k + 2) (cal L fs) := by
  have := below_len h.be h.hi
  refine ⟨by simp, fun d hd => ?_⟩
  simp at hd
  rcases hd with rfl | rfl
  · simp
  · exact ⟨by simp; omega, fun d hd => by simp at hd; obtain ⟨a, _, rfl⟩ := hd; simp⟩
/-- what Hand says of a calendar -/
theorem hand_cal {L : Int} {fs : List Int} {k : Nat} {e : D} (h : Hand (k + 2) (cal L fs) e) : ∃ b b', e = sq b [.int L, sq b' (dInts fs)] := by
  obtain ⟨b, es, rfl, hl, hh⟩ := h.tup
  match es, hl with
  | [x, y], _ =>
    have h1 := hh 0 (by simp) (by simp)
    have h2 := hh 1 (by simp) (by simp)
    simp at h1 h2
    obtain ⟨b', fs', rfl, hl', hh'⟩ := h2.tup
    refine ⟨b, b', ?_⟩
    rw [h1]
    congr 3
    congr 1
    refine List.ext_getElem (by simpa using hl') fun i hi hj => ?_
    have := hh' i (by simpa using hj) hi
    simp at this
    simp [this]
theorem is_calendar_ok {L : Int} {fs : List Int} (h : Cal L fs) {b b' : Bool} : F_is_calendar [sq b [.int L, sq b' (dInts fs)]] S = .ok (.bl true) S := by
  have hl := below_len h.be h.hi
  have hp : 0 < fs.length := List.length_pos_iff.mpr h.ne
  have e1 := inR_t h.lo h.hi
  have e2 : inR 2 2 2 = true := rfl
  have e3 := are_below_sq (b := b') (S := S) (ns := fs) (many := L) (by omega)
  simp [F_is_calendar, b_is_calendar, ev_run, is_row_sq, is_within_int, e1, e2, e3, h.be, hp]
theorem is_calendar_non : F_is_calendar [.non] S = .ok (.bl true) S := by simp [F_is_calendar, b_is_calendar, ev_run]
theorem need_calendar_ok {L : Int} {fs : List Int} (h : Cal L fs) {e : D} (hh : Hand 9 (cal L fs) e) : F_need_calendar [e] S = .ok (cal L fs) S := by
  have e1 := frozen_ok (S := S) 9 e (hh.ok (cal_tups h).ok)
  rw [hh.fz] at e1
  obtain ⟨b, b', rfl⟩ := hand_cal hh
  have e2 := is_calendar_ok (S := S) h (b := b) (b' := b')
  simp [F_need_calendar, b_need_calendar, ev_run, e1, e2]
theorem need_tick_ok {t a : Int} (h0 : 0 ≤ t) (h1 : t ≤ 1000000) : F_need_tick [.int t, .int a] S = .ok .non S := by
  simp [F_need_tick, b_need_tick, ev_run, is_within_int, inR_t h0 h1]
theorem due_ok {L first ticks : Int} {fs : List Int} (h : Cal L fs) {e : D} (hh : Hand 9 (cal L fs) e) (h0 : 0 ≤ first) (h1 : first ≤ 1000000) (h2 : 1 ≤ ticks) (h3 : ticks ≤ 1000) : F_due [e, .int first, .int ticks] S = .ok (.int (dueAt L fs first ticks)) S := by
  have e1 := need_calendar_ok (S := S) h hh
  have e2 := need_tick_ok (S := S) (a := 1) h0 h1
  have e3 := due_at_eq (S := S) (first := first) (ticks := ticks) (Int.lt_of_lt_of_le (by decide) h.lo) h.hi (below_len h.be h.hi) h.ne
  unfold cal at e1 e3
  simp [F_due, b_due, ev_run, e1, e2, e3, is_within_int, inR_t h2 h3]
theorem is_open_ok {L n : Int} {fs : List Int} (h : Cal L fs) {e : D} (hh : Hand 9 (cal L fs) e) (h0 : 0 ≤ n) (h1 : n ≤ 1000000) : F_is_open [e, .int n] S = .ok (.bl (decide (n % L ∈ fs))) S := by
  have e1 := need_calendar_ok (S := S) h hh
  have e2 := need_tick_ok (S := S) (a := 1) h0 h1
  have e3 := is_open_at_eq (S := S) (n := n) (fs := fs) (Int.lt_of_lt_of_le (by decide) h.lo)
  unfold cal at e1 e3
  simp [F_is_open, b_is_open, ev_run, e1, e2, e3]
end Wh

namespace Wh
open PySem PySem.Spec PyProof.Rows L2 Wd
/-! calendars: plain reckoning -/
def cnt (fs : List Int) (r : Int) : Int := (fs.filter fun p => decide (p < r)).length
theorem cnt_succ {fs : List Int} (hn : fs.Nodup) (r : Int) : cnt fs (r + 1) = cnt fs r + if r ∈ fs then 1 else 0 := by
  unfold cnt
  induction fs with
  | nil => rfl
  | cons p fs ih =>
    have hn' := List.nodup_cons.mp hn
    have ih := ih hn'.2
    simp only [List.filter_cons, List.mem_cons]
    by_cases h1 : p < r
    · have h2 : p < r + 1 := by omega
      have h3 : ¬ r = p := by omega
      simp only [h1, h2, decide_true, if_true, List.length_cons, h3, false_or]
      omega
    · by_cases h2 : p < r + 1
      · have h3 : r = p := by omega
        subst h3
        simp only [h1, h2, decide_true, decide_false, if_true, List.length_cons, true_or, Bool.false_eq_true, if_false]
        rw [if_neg hn'.1] at ih
        omega
      · have h3 : ¬ r = p := by omega
        simp only [h1, h2, decide_false, Bool.false_eq_true, if_false, h3, false_or]
        exact ih
theorem cnt_zero {fs : List Int} (h : ∀ p ∈ fs, 0 ≤ p) : cnt fs 0 = 0 := by
  unfold cnt
  rw [List.filter_eq_nil_iff.mpr]
  · rfl
  · intro p hp
    have := h p hp
    simp
    omega
theorem cnt_all {fs : List Int} {L : Int} (h : ∀ p ∈ fs, p < L) : cnt fs L = fs.length := by
  unfold cnt
  rw [List.filter_eq_self.mpr]
  intro p hp
  simp [h p hp]
theorem below_nodup {fs : List Int} {L : Int} (h : below fs L = true) : fs.Nodup := by
  refine List.pairwise_iff_getElem.mpr fun i j hi hj hij e => ?_
  have h1 := below_rise h i j hij hj
  simp [List.getD, hi, hj, e] at h1
theorem openBelow_eq {L n : Int} {fs : List Int} : openBelow L fs n = n / L * fs.length + cnt fs (n % L) := rfl
theorem openBelow_succ {L n : Int} {fs : List Int} (h : Cal L fs) (hn : 0 ≤ n) : openBelow L fs (n + 1) = openBelow L fs n + if n % L ∈ fs then 1 else 0 := by
  have hL := h.lo
  have hm := fun p hp => below_mem h.be (p := p) hp
  have nd := below_nodup h.be
  have h1 := Int.emod_nonneg n (b := L) (by omega)
  have h2 := Int.emod_lt_of_pos n (b := L) (by omega)
  have h3 := Int.emod_add_mul_ediv n L
  rw [openBelow_eq, openBelow_eq]
  by_cases hr : n % L + 1 < L
  · have e1 : (n + 1) / L = n / L := by
      rw [Int.ediv_eq_iff_of_pos (by omega)]
      constructor
      · rw [Int.mul_comm]; omega
      · rw [Int.mul_comm (n / L) L]; omega
    have e2 : (n + 1) % L = n % L + 1 := by
      have := Int.emod_add_mul_ediv (n + 1) L
      rw [e1] at this
      omega
    rw [e1, e2, cnt_succ nd]
    omega
  · have e0 : n % L = L - 1 := by omega
    have e1 : (n + 1) / L = n / L + 1 := by
      rw [Int.ediv_eq_iff_of_pos (by omega)]
      constructor
      · rw [Int.add_mul, Int.mul_comm (n / L) L]; omega
      · rw [Int.add_mul, Int.mul_comm (n / L) L]; omega
    have e2 : (n + 1) % L = 0 := by
      have := Int.emod_add_mul_ediv (n + 1) L
      rw [e1, Int.mul_add] at this
      omega
    have e3 := cnt_succ nd (n % L)
    rw [show n % L + 1 = L by omega, cnt_all fun p hp => (hm p hp).2] at e3
    rw [e1, e2, cnt_zero fun p hp => (hm p hp).1, Int.add_mul]
    omega
theorem openBelow_shift {L n k : Int} {fs : List Int} (h : Cal L fs) : openBelow L fs (n + k * L) = openBelow L fs n + k * fs.length := by
  have hL := h.lo
  rw [openBelow_eq, openBelow_eq, Int.add_mul_ediv_right _ _ (by omega), Int.add_mul_emod_self_right, Int.add_mul]
  omega
theorem cnt_at {fs : List Int} {L : Int} (h : below fs L = true) : ∀ i : Nat, i < fs.length → cnt fs (fs.getD i 0) = i := by
  intro i hi
  unfold cnt
  have e1 : fs = fs.take i ++ fs.drop i := (List.take_append_drop i fs).symm
  have e2 : (fs.filter fun p => decide (p < fs.getD i 0)) = fs.take i := by
    conv => lhs; rw [e1, List.filter_append]
    rw [List.filter_eq_self.mpr, List.filter_eq_nil_iff.mpr, List.append_nil]
    · intro p hp
      obtain ⟨j, hj, rfl⟩ := List.mem_iff_getElem.mp hp
      rw [List.getElem_drop]
      rw [List.length_drop] at hj
      simp only [decide_eq_true_eq]
      by_cases z : j = 0
      · subst z
        simp [List.getD, hi, show i + 0 < fs.length by omega]
      · have := below_rise h i (i + j) (by omega) (by omega)
        simp [List.getD, hi, show i + j < fs.length by omega] at this ⊢
        omega
    · intro p hp
      obtain ⟨j, hj, rfl⟩ := List.mem_iff_getElem.mp hp
      rw [List.getElem_take]
      rw [List.length_take] at hj
      have := below_rise h j i (by omega) hi
      simp [List.getD, hi, show j < fs.length by omega] at this ⊢
      exact this
  rw [e2, List.length_take]
  omega
/-- the tick behind the last of ticks open ones -/
theorem dueAt_of {L first ticks t : Int} {fs : List Int} (h : Cal L fs) (ht : 1 ≤ t) (ho : (t - 1) % L ∈ fs) (hc : openBelow L fs t = openBelow L fs first + ticks) : t = dueAt L fs first ticks := by
  have hL := h.lo
  obtain ⟨i, hi, ei⟩ := List.mem_iff_getElem.mp ho
  have e1 := openBelow_succ h (n := t - 1) (by omega)
  rw [if_pos ho, show t - 1 + 1 = t by omega] at e1
  have e2 : openBelow L fs (t - 1) = (t - 1) / L * fs.length + i := by
    rw [openBelow_eq, ← ei]
    have := cnt_at h.be i hi
    rw [show fs.getD i 0 = fs[i] by simp [List.getD, hi]] at this
    rw [this]
  have e3 : openBelow L fs first + ticks - 1 = i + (t - 1) / L * fs.length := by omega
  unfold dueAt
  rw [e3, Int.add_mul_ediv_right _ _ (by omega), Int.add_mul_emod_self_right, Int.ediv_eq_zero_of_lt (by omega) (by omega), Int.emod_eq_of_lt (by omega) (by omega), Int.zero_add]
  rw [Int.toNat_natCast, show fs.getD i 0 = (t - 1) % L by simp [List.getD, hi, ei]]
  have := Int.emod_add_mul_ediv (t - 1) L
  rw [Int.mul_comm] at this
  omega
theorem openBelow_mono {L : Int} {fs : List Int} (h : Cal L fs) {n : Int} (hn : 0 ≤ n) : ∀ k : Nat, openBelow L fs n ≤ openBelow L fs (n + k)
  | 0 => by simp
  | k + 1 => by
    have := openBelow_mono h hn k
    have e := openBelow_succ h (n := n + k) (by omega)
    rw [show n + ((k + 1 : Nat) : Int) = n + k + 1 by omega, e]
    split <;> omega
end Wh

namespace Wh
open PySem PySem.Spec PyProof.Rows L2 Wd
variable {m : Ms} {r : List Sl} {S T : Store} {ds : List D} {b : Bool} {d : D}
theorem below_of {fs : List Int} {L : Int} (h1 : ∀ p ∈ fs, 0 ≤ p ∧ p < L) (h2 : fs.Pairwise (· < ·)) : below fs L = true := by
  unfold below
  rw [Bool.and_eq_true_iff]
  refine ⟨List.all_eq_true.mpr fun p hp => inR_t (h1 p hp).1 (by have := (h1 p hp).2; omega), List.all_eq_true.mpr fun i hi => decide_eq_true ?_⟩
  rw [List.mem_range] at hi
  have := List.pairwise_iff_getElem.mp h2 i (i + 1) (by omega) (by omega) (by omega)
  simpa [List.getD, show i < fs.length by omega, show i + 1 < fs.length by omega] using this
theorem below_pair {fs : List Int} {L : Int} (h : below fs L = true) : fs.Pairwise (· < ·) := by
  refine List.pairwise_iff_getElem.mpr fun i j hi hj hij => ?_
  have := below_rise h i j hij hj
  simpa [List.getD, hi, hj] using this
/-- a calendar or none -/
def kD : Option (Int × List Int) → D
  | none => .non
  | some (L, fs) => cal L fs
def KCal : Option (Int × List Int) → Prop
  | none => True
  | some (L, fs) => Cal L fs
def kOb : Option (Int × List Int) → Int → Int
  | none, n => n
  | some (L, fs), n => openBelow L fs n
def kOpen : Option (Int × List Int) → Int → Bool
  | none, _ => true
  | some (L, fs), n => decide (n % L ∈ fs)
def kDue : Option (Int × List Int) → Int → Int → Int
  | none, first, ticks => first + ticks
  | some (L, fs), first, ticks => dueAt L fs first ticks
theorem k_tups {k : Option (Int × List Int)} (h : KCal k) : Tups 9 (kD k) := by
  cases k with
  | none => exact trivial
  | some c => exact cal_tups (k := 7) h
theorem need_calendar_k {k : Option (Int × List Int)} (h : KCal k) {e : D} (hh : Hand 9 (kD k) e) : F_need_calendar [e] S = .ok (kD k) S := by
  cases k with
  | none =>
    have : e = .non := hh
    subst this
    have e1 := frozen_ok (S := S) 9 .non trivial
    simp at e1
    simp [F_need_calendar, b_need_calendar, ev_run, is_calendar_non, e1, kD]
  | some c => exact need_calendar_ok h hh
theorem open_below_k {k : Option (Int × List Int)} (h : KCal k) {n : Int} : F_open_below [kD k, .int n] S = .ok (.int (kOb k n)) S := by
  cases k with
  | none => simp [kD, kOb, F_open_below, b_open_below, ev_run]
  | some c => exact open_below_eq (Int.lt_of_lt_of_le (by decide) h.lo) h.hi (below_len h.be h.hi)
theorem due_at_k {k : Option (Int × List Int)} (h : KCal k) {first ticks : Int} : F_due_at [kD k, .int first, .int ticks] S = .ok (.int (kDue k first ticks)) S := by
  cases k with
  | none => simp [kD, kDue, F_due_at, b_due_at, ev_run]
  | some c => exact due_at_eq (Int.lt_of_lt_of_le (by decide) h.lo) h.hi (below_len h.be h.hi) h.ne
theorem is_open_at_k {k : Option (Int × List Int)} (h : KCal k) {n : Int} : F_is_open_at [kD k, .int n] S = .ok (.bl (kOpen k n)) S := by
  cases k with
  | none => simp [kD, kOpen, F_is_open_at, b_is_open_at, ev_run]
  | some c => exact is_open_at_eq (Int.lt_of_lt_of_le (by decide) h.lo)
theorem due_k {k : Option (Int × List Int)} (h : KCal k) {e : D} (hh : Hand 9 (kD k) e) {first ticks : Int} (h0 : 0 ≤ first) (h1 : first ≤ 1000000) (h2 : 1 ≤ ticks) (h3 : ticks ≤ 1000) : F_due [e, .int first, .int ticks] S = .ok (.int (kDue k first ticks)) S := by
  simp [F_due, b_due, ev_run, need_calendar_k h hh, need_tick_ok h0 h1, due_at_k h, is_within_int, inR_t h2 h3]
theorem is_open_k {k : Option (Int × List Int)} (h : KCal k) {e : D} (hh : Hand 9 (kD k) e) {n : Int} (h0 : 0 ≤ n) (h1 : n ≤ 1000000) : F_is_open [e, .int n] S = .ok (.bl (kOpen k n)) S := by
  simp [F_is_open, b_is_open, ev_run, need_calendar_k h hh, need_tick_ok h0 h1, is_open_at_k h]
theorem open_ticks_k {k : Option (Int × List Int)} (h : KCal k) {e : D} (hh : Hand 9 (kD k) e) {a c : Int} (h0 : 0 ≤ a) (h1 : a ≤ 1000000) (h2 : 0 ≤ c) (h3 : c ≤ 1000000) : F_open_ticks [e, .int a, .int c] S = .ok (.int (imx 0 (kOb k c - kOb k a))) S := by
  simp [F_open_ticks, b_open_ticks, ev_run, need_calendar_k h hh, need_tick_ok h0 h1, need_tick_ok h2 h3, open_below_k h]
theorem kOb_succ {k : Option (Int × List Int)} (h : KCal k) {n : Int} (hn : 0 ≤ n) : kOb k (n + 1) = kOb k n + if kOpen k n = true then 1 else 0 := by
  cases k with
  | none => simp [kOb, kOpen]
  | some c =>
    have := openBelow_succ h hn
    simpa [kOb, kOpen] using this
theorem kOb_zero {k : Option (Int × List Int)} (h : KCal k) : kOb k 0 = 0 := by
  cases k with
  | none => rfl
  | some c =>
    show openBelow c.1 c.2 0 = 0
    rw [openBelow_eq, Int.zero_ediv, Int.zero_emod, cnt_zero fun p hp => (below_mem h.be hp).1]
    omega
theorem kOb_le {k : Option (Int × List Int)} (h : KCal k) {a c : Int} (ha : 0 ≤ a) (hc : a ≤ c) : kOb k a ≤ kOb k c := by
  have key : ∀ j : Nat, kOb k a ≤ kOb k (a + j) := by
    intro j
    induction j with
    | zero => simp
    | succ j ih =>
      have e := kOb_succ h (n := a + j) (by omega)
      rw [show a + ((j + 1 : Nat) : Int) = a + j + 1 by omega, e]
      split <;> omega
  have := key (c - a).toNat
  rwa [show a + ((c - a).toNat : Int) = c by omega] at this
/-- what due answers -/
theorem kDue_spec {k : Option (Int × List Int)} (h : KCal k) {first ticks : Int} (h0 : 0 ≤ first) (h1 : 1 ≤ ticks) : first < kDue k first ticks ∧ kOpen k (kDue k first ticks - 1) = true ∧ kOb k (kDue k first ticks) = kOb k first + ticks ∧ kDue k first ticks ≤ first + 28 * ticks + 28 := by
  cases k with
  | none => refine ⟨?_, rfl, rfl, ?_⟩ <;> show _ ; all_goals (simp only [kDue]; omega)
  | some c =>
    obtain ⟨L, fs⟩ := c
    have hL := h.lo
    have hL2 := h.hi
    have hp : 0 < fs.length := List.length_pos_iff.mpr h.ne
    have hlen := below_len h.be h.hi
    show first < dueAt L fs first ticks ∧ decide ((dueAt L fs first ticks - 1) % L ∈ fs) = true ∧ openBelow L fs (dueAt L fs first ticks) = openBelow L fs first + ticks ∧ dueAt L fs first ticks ≤ first + 28 * ticks + 28
    -- last = q len + i
    have d1 := Int.emod_add_mul_ediv (openBelow L fs first + ticks - 1) fs.length
    have d2 := Int.emod_nonneg (openBelow L fs first + ticks - 1) (b := (fs.length : Int)) (by omega)
    have d3 := Int.emod_lt_of_pos (openBelow L fs first + ticks - 1) (b := (fs.length : Int)) (by omega)
    have eD : dueAt L fs first ticks = (openBelow L fs first + ticks - 1) / fs.length * L + fs.getD ((openBelow L fs first + ticks - 1) % fs.length).toNat 0 + 1 := rfl
    have f0 : 0 ≤ openBelow L fs first := by
      have := kOb_le (k := some (L, fs)) h (a := 0) (c := first) (Int.le_refl 0) h0
      rw [kOb_zero (k := some (L, fs)) h] at this
      exact this
    have d4 : 0 ≤ (openBelow L fs first + ticks - 1) / (fs.length : Int) := Int.ediv_nonneg (by omega) (by omega)
    generalize hq : (openBelow L fs first + ticks - 1) / (fs.length : Int) = q at *
    generalize hi : ((openBelow L fs first + ticks - 1) % (fs.length : Int)).toNat = i at *
    have hi' : i < fs.length := by omega
    have hm := below_mem h.be (p := fs.getD i 0) (by simp [List.getD, hi'])
    have e1 : (dueAt L fs first ticks - 1) % L = fs.getD i 0 := by
      rw [eD, show q * L + fs.getD i 0 + 1 - 1 = fs.getD i 0 + q * L by omega, Int.add_mul_emod_self_right, Int.emod_eq_of_lt hm.1 hm.2]
    have e2 : (dueAt L fs first ticks - 1) / L = q := by
      rw [eD, show q * L + fs.getD i 0 + 1 - 1 = fs.getD i 0 + q * L by omega, Int.add_mul_ediv_right _ _ (by omega), Int.ediv_eq_zero_of_lt hm.1 hm.2]
      omega
    have hmem : (dueAt L fs first ticks - 1) % L ∈ fs := by
      rw [e1]
      simp [List.getD, hi']
    have hqL : 0 ≤ q * L := Int.mul_nonneg d4 (by omega)
    have hpos : 0 ≤ dueAt L fs first ticks - 1 := by omega
    have e3 : openBelow L fs (dueAt L fs first ticks - 1) = q * fs.length + i := by
      rw [openBelow_eq, e1, e2, cnt_at h.be i hi']
    have e4 := openBelow_succ h hpos
    rw [if_pos hmem, show dueAt L fs first ticks - 1 + 1 = dueAt L fs first ticks by omega] at e4
    have e5 : openBelow L fs (dueAt L fs first ticks) = openBelow L fs first + ticks := by
      rw [Int.mul_comm] at d1
      omega
    refine ⟨?_, decide_eq_true hmem, e5, ?_⟩
    · by_cases z : first < dueAt L fs first ticks
      · exact z
      · have := kOb_le (k := some (L, fs)) h (a := dueAt L fs first ticks) (c := first) (by omega) (by omega)
        have : openBelow L fs (dueAt L fs first ticks) ≤ openBelow L fs first := this
        omega
    · -- first + k L has k len more open ones
      by_cases z : dueAt L fs first ticks - 1 < first + ticks * L
      · have : ticks * L ≤ ticks * 28 := Int.mul_le_mul_of_nonneg_left hL2 (by omega)
        omega
      · have h5 := kOb_le (k := some (L, fs)) h (a := first + ticks * L) (c := dueAt L fs first ticks - 1) (by have : 0 ≤ ticks * L := Int.mul_nonneg (by omega) (by omega); omega) (by omega)
        have h6 : openBelow L fs (first + ticks * L) ≤ openBelow L fs (dueAt L fs first ticks - 1) := h5
        rw [openBelow_shift h] at h6
        have : ticks * 1 ≤ ticks * fs.length := Int.mul_le_mul_of_nonneg_left (by omega) (by omega)
        omega
/-- the one tick that fits -/
theorem kDue_uniq {k : Option (Int × List Int)} (h : KCal k) {first ticks t : Int} (h0 : 0 ≤ first) (h1 : 1 ≤ ticks) (ht : 1 ≤ t) (ho : kOpen k (t - 1) = true) (hc : kOb k t = kOb k first + ticks) : t = kDue k first ticks := by
  cases k with
  | none => exact hc
  | some c => exact dueAt_of h ht (of_decide_eq_true ho) hc
/-! _law_calendar, _law_wide -/
theorem sub_upto {fs : List Int} {k : Nat} (h : fs.Sublist (upto k)) : (∀ p ∈ fs, 0 ≤ p ∧ p < k) ∧ fs.Pairwise (· < ·) := by
  refine ⟨fun p hp => upto_mem.mp (h.subset hp), List.Pairwise.sublist h ?_⟩
  unfold upto
  refine List.pairwise_iff_getElem.mpr fun i j hi hj hij => ?_
  simp
  exact hij
theorem pick3 {a b c : D} {i : Int} (h0 : 0 ≤ i) (h1 : i < 3) : ∃ x, atI [a, b, c] i = some x ∧ (x = a ∨ x = b ∨ x = c) := by
  have : i = 0 ∨ i = 1 ∨ i = 2 := by omega
  rcases this with h | h | h <;> subst h <;> simp
theorem calendar_ok {ns : List Int} (h0 : ns ≠ []) {n : Int} (hn : 0 ≤ n) : ∃ (k : Option (Int × List Int)) (n' : Int), KCal k ∧ 0 ≤ n' ∧ F_law_calendar [.lst (dInts ns), .loc 0] (.lst [.int n] :: T) = .ok (kD k) (.lst [.int n'] :: T) := by
  have t1 := take_eq (ns := ns) (k := n) (lim := 2) (S := T) h0 hn (by decide)
  by_cases z : dr ns n 2 = 0
  · exact ⟨none, n + 1, trivial, by omega, by simp [F_law_calendar, b_law_calendar, ev_run, t1, z, kD]⟩
  have t2 := take_eq (ns := ns) (k := n + 1) (lim := 3) (S := T) h0 (by omega) (by decide)
  obtain ⟨x1, ex1, hx1⟩ := pick3 (a := .int 3) (b := .int 7) (c := .int 28) (dr_nonneg (ns := ns) (k := n + 1) (lim := 3) (by decide)) (dr_lt (by decide))
  obtain ⟨q, rfl, hq1, hq2⟩ : ∃ q : Int, x1 = .int q ∧ 3 ≤ q ∧ q ≤ 28 := by
    rcases hx1 with rfl | rfl | rfl
    · exact ⟨3, rfl, by decide, by decide⟩
    · exact ⟨7, rfl, by decide, by decide⟩
    · exact ⟨28, rfl, by decide, by decide⟩
  have t3 := take_eq (ns := ns) (k := n + 1 + 1) (lim := q) (S := T) h0 (by omega) (by omega)
  have a1 := dr_nonneg (ns := ns) (k := n + 1 + 1) (lim := q) (by omega)
  have a2 := dr_lt (ns := ns) (k := n + 1 + 1) (lim := q) (by omega)
  obtain ⟨L, hL⟩ : ∃ L : Nat, 1 + dr ns (n + 1 + 1) q = L := ⟨(1 + dr ns (n + 1 + 1) q).toNat, by omega⟩
  obtain ⟨acc, m', e1, fs, n', hn', ea, em, hs⟩ := lcD_st (vs := [4]) (tg := tgN 4) (t := tOf (e2 (oEq false) (fCall F_law_take (aCons (eVar 0) (aCons (eVar 1) (aCons (eC (.int 2)) aNil)))) (eC (.int 0)))) (f := eVar 4) (enc := fun i : Nat => D.int (0 + (i : Int)))
    (P := fun i acc m => ∃ (fs : List Int) (n' : Int), 0 ≤ n' ∧ acc = dInts fs ∧ m = ⟨[.val (.lst (dInts ns)), .val (.loc 0), .val (.int L), .un, .un], .lst [.int n'] :: T⟩ ∧ fs.Sublist (upto i))
    (List.range L) 0 [] ⟨[.val (.lst (dInts ns)), .val (.loc 0), .val (.int L), .un, .un], .lst [.int (n + 1 + 1 + 1)] :: T⟩
    (fun i x acc m hi ⟨fs, n', hn', ea, em, hs⟩ => by
      have hx := List.getElem?_eq_some_iff.mp hi
      obtain ⟨hi1, hi2⟩ := hx
      rw [List.getElem_range] at hi2
      subst hi2
      rw [List.length_range] at hi1
      have tt := take_eq (ns := ns) (k := n') (lim := 2) (S := T) h0 hn' (by decide)
      have hl : acc.length < 16777216 := by
        have := hs.length_le
        rw [upto_length] at this
        rw [ea, List.length_map]
        omega
      have hup : upto (0 + i + 1) = upto (0 + i) ++ [(i : Int)] := by
        unfold upto
        rw [Nat.zero_add, List.range_succ, List.map_append]
        rfl
      by_cases z : dr ns n' 2 = 0
      · refine ⟨⟨[.val (.lst (dInts ns)), .val (.loc 0), .val (.int L), .un, .un], .lst [.int (n' + 1)] :: T⟩, .inl ⟨.int (0 + (i : Int)), ?_, hl, fs ++ [(i : Int)], n' + 1, by omega, by simp [ea], rfl, ?_⟩⟩
        · rw [em]; simp [tt, z]
        · rw [hup]
          exact hs.append (List.Sublist.refl _)
      · refine ⟨⟨[.val (.lst (dInts ns)), .val (.loc 0), .val (.int L), .un, .un], .lst [.int (n' + 1)] :: T⟩, .inr ⟨?_, fs, n' + 1, by omega, ea, rfl, ?_⟩⟩
        · rw [em]; simp [tt, z]
        · rw [hup]
          exact hs.trans (List.sublist_append_left _ _))
    ⟨[], n + 1 + 1 + 1, by omega, rfl, rfl, List.nil_sublist _⟩
  have er : rgD 0 (L : Int) = (List.range L).map fun i : Nat => D.int (0 + (i : Int)) := by
    unfold rgD
    rw [show ((L : Int) - 0).toNat = L by omega]
  rw [← er] at e1
  rw [Nat.zero_add, List.length_range] at hs
  obtain ⟨hb1, hb2⟩ := sub_upto hs
  have c1 : (L : Int) ≤ 1000000000 := by omega
  have c2 : -1000000000 ≤ (L : Int) := by omega
  subst ea em
  by_cases zf : fs = []
  · subst zf
    have t4 := take_eq (ns := ns) (k := n') (lim := L) (S := T) h0 hn' (by omega)
    refine ⟨some (L, [dr ns n' L]), n' + 1, ⟨by omega, by omega, below_of (fun p hp => ?_) (List.pairwise_singleton _ _), by simp⟩, by omega, ?_⟩
    · have hp' : p = dr ns n' L := by simpa using hp
      subst hp'
      exact ⟨dr_nonneg (by omega), dr_lt (by omega)⟩
    · simp only [List.map_nil] at e1
      simp [F_law_calendar, b_law_calendar, ev_run, t1, z, t2, ex1, t3, hL, c1, c2, e1, t4, kD]
  · have hp : 0 < fs.length := List.length_pos_iff.mpr zf
    have hl16 : fs.length ≤ 16777216 := by
      have := hs.length_le
      rw [upto_length] at this
      omega
    refine ⟨some (L, fs), n', ⟨by omega, by omega, below_of hb1 hb2, zf⟩, hn', ?_⟩
    simp [F_law_calendar, b_law_calendar, ev_run, t1, z, t2, ex1, t3, hL, c1, c2, e1, kD, hp]
theorem wide_ok {ns : List Int} (h0 : ns ≠ []) {n lim : Int} (hn : 0 ≤ n) (hl : 0 < lim) : ∃ (v n' : Int), 0 ≤ v ∧ v < lim ∧ 0 ≤ n' ∧ F_law_wide [.lst (dInts ns), .loc 0, .int lim] (.lst [.int n] :: T) = .ok (.int v) (.lst [.int n'] :: T) := by
  have t1 := take_eq (ns := ns) (k := n) (lim := 997) (S := T) h0 hn (by decide)
  have t2 := take_eq (ns := ns) (k := n + 1) (lim := 997) (S := T) h0 (by omega) (by decide)
  have t3 := take_eq (ns := ns) (k := n + 1 + 1) (lim := 997) (S := T) h0 (by omega) (by decide)
  exact ⟨(dr ns n 997 * 994009 + dr ns (n + 1) 997 * 997 + dr ns (n + 1 + 1) 997) % lim, n + 1 + 1 + 1, Int.emod_nonneg _ (by omega), Int.emod_lt_of_pos _ hl, by omega, by simp [F_law_wide, b_law_wide, ev_run, t1, t2, t3, hl]⟩
/-! _law_so of pairs -/
theorem so_pair {k : Nat} {a b c e : D} {x y : Bool} (h1 : F_law_so (k + 1) [a, c] S = .ok (.bl x) S) (h2 : F_law_so (k + 1) [b, e] S = .ok (.bl y) S) : F_law_so (k + 1 + 1) [.tup [a, b], .tup [c, e]] S = .ok (.bl (x && y)) S := by
  have er : rgD 0 2 = [.int 0, .int 1] := rfl
  rw [F_law_so]
  cases x <;> cases y <;> simp [b_law_so, lp_law_so_1, ev_run, er, ev_for_cons, h1, h2]
end Wh

/-! words, kinds, places: what the program's tests and the law's tests tell of data -/
namespace Wh
open PySem PySem.Spec PyProof.Rows L2 Wd
variable {m : Ms} {r : List Sl} {S : Store} {ds : List D} {b : Bool} {d : D}
/-- tuples, k deep at most, with short texts -/
def Dat : Nat → D → Prop
  | _, .non => True
  | _, .bl _ => True
  | _, .int _ => True
  | _, .str z => z.length ≤ 16777216 ∧ PyData.canLay0 (.str z) = true
  | k + 1, .tup ds => ds.length ≤ 16777216 ∧ ∀ d ∈ ds, Dat k d
  | _, _ => False
@[simp] theorem Dat_int {k : Nat} {i : Int} : Dat k (.int i) := by cases k <;> trivial
@[simp] theorem Dat_bl {k : Nat} {i : Bool} : Dat k (.bl i) := by cases k <;> trivial
@[simp] theorem Dat_non {k : Nat} : Dat k .non := by cases k <;> trivial
theorem Dat_str {k : Nat} {z : Str} : Dat k (.str z) ↔ z.length ≤ 16777216 ∧ PyData.canLay0 (.str z) = true := by cases k <;> exact Iff.rfl
theorem Dat_tup {k : Nat} : Dat (k + 1) (.tup ds) ↔ ds.length ≤ 16777216 ∧ ∀ d ∈ ds, Dat k d := Iff.rfl
theorem Dat_lst {k : Nat} : ¬ Dat k (.lst ds) := by cases k <;> exact id
theorem Dat_ro {k : Nat} : ¬ Dat k (.ro ds) := by cases k <;> exact id
theorem Dat_loc {k n : Nat} : ¬ Dat k (.loc n) := by cases k <;> exact id
theorem Dat_0tup : ¬ Dat 0 (.tup ds) := id
theorem Dat.tups : ∀ {k : Nat} {d : D}, Dat k d → Tups k d
  | k, .non, _ => by simp
  | k, .bl _, _ => by simp
  | k, .int _, _ => by simp
  | k, .str _, _ => by simp
  | k + 1, .tup ds, ⟨h1, h2⟩ => ⟨h1, fun d hd => (h2 d hd).tups⟩
  | 0, .tup _, h => h.elim
  | k, .lst _, h => (Dat_lst h).elim
  | k, .ro _, h => (Dat_ro h).elim
  | k, .loc _, h => (Dat_loc h).elim
theorem Dat.succ : ∀ {k : Nat} {d : D}, Dat k d → Dat (k + 1) d
  | k, .non, _ => by simp
  | k, .bl _, _ => by simp
  | k, .int _, _ => by simp
  | k, .str _, h => Dat_str.mpr (Dat_str.mp h)
  | k + 1, .tup ds, ⟨h1, h2⟩ => ⟨h1, fun d hd => (h2 d hd).succ⟩
  | 0, .tup _, h => h.elim
  | k, .lst _, h => (Dat_lst h).elim
  | k, .ro _, h => (Dat_ro h).elim
  | k, .loc _, h => (Dat_loc h).elim
theorem Dat.mono {k j : Nat} {d : D} (h : Dat k d) (l : k ≤ j) : Dat j d := by
  obtain ⟨i, rfl⟩ : ∃ i, j = k + i := ⟨j - k, by omega⟩
  clear l
  induction i with
  | zero => exact h
  | succ i ih => exact ih.succ
/-- data and what may be handed in for it: cases -/
theorem Dat.hand {k : Nat} {d e : D} {P : D → D → Prop} (hd : Dat k d) (hh : Hand k d e) (h0 : P .non .non) (h1 : ∀ x, P (.bl x) (.bl x)) (h2 : ∀ i, P (.int i) (.int i))
    (h3 : ∀ z, z.length ≤ 16777216 → P (.str z) (.str z)) (h4 : ∀ j ds b es, k = j + 1 → ds.length ≤ 16777216 → (∀ d ∈ ds, Dat j d) → es.length = ds.length → (∀ i (h : i < ds.length) (h' : i < es.length), Hand j ds[i] es[i]) → P (.tup ds) (sq b es)) : P d e := by
  cases d with
  | non => rw [Hand_non] at hh; rw [hh]; exact h0
  | bl x => rw [Hand_bl] at hh; rw [hh]; exact h1 x
  | int i => rw [Hand_int] at hh; rw [hh]; exact h2 i
  | str z => rw [Hand_str] at hh; rw [hh]; exact h3 z (Dat_str.mp hd).1
  | tup ds =>
    cases k with
    | zero => exact hd.elim
    | succ j => obtain ⟨b, es, rfl, hl, hi⟩ := hh; exact h4 j ds b es rfl hd.1 hd.2 hl hi
  | lst ds => exact (Dat_lst hd).elim
  | ro ds => exact (Dat_ro hd).elim
  | loc n => exact (Dat_loc hd).elim
theorem Dat.cases {k : Nat} {d : D} {P : D → Prop} (hd : Dat k d) (h0 : P .non) (h1 : ∀ x, P (.bl x)) (h2 : ∀ i, P (.int i)) (h3 : ∀ z, z.length ≤ 16777216 → P (.str z))
    (h4 : ∀ j ds, k = j + 1 → ds.length ≤ 16777216 → (∀ d ∈ ds, Dat j d) → P (.tup ds)) : P d :=
  hd.hand (P := fun d _ => P d) hd.tups.self h0 h1 h2 h3 fun j ds b es e1 e2 e3 _ _ => h4 j ds e1 e2 e3
/-- rows of data and what is handed in for them -/
def Hands (k : Nat) (ds es : List D) : Prop := es.length = ds.length ∧ ∀ i (h : i < ds.length) (h' : i < es.length), Hand k ds[i] es[i]
theorem Hands.nil {k : Nat} {es : List D} (h : Hands k [] es) : es = [] := List.length_eq_zero_iff.mp h.1
theorem Hands.cons {k : Nat} {d : D} {es : List D} (h : Hands k (d :: ds) es) : ∃ e es', es = e :: es' ∧ Hand k d e ∧ Hands k ds es' := by
  obtain ⟨hl, hi⟩ := h
  match es, hl with
  | e :: es', hl =>
    refine ⟨e, es', rfl, hi 0 (by simp) (by simp), by simpa using hl, fun i h h' => ?_⟩
    have := hi (i + 1) (by simpa using h) (by simpa using h')
    simpa using this
/-! ### words -/
def letters : Str := "abcdefghijklmnopqrstuvwxyz"
def wordS (z : Str) : Bool := decide (1 ≤ z.length ∧ z.length ≤ 8) && z.cps.toList.all fun c => decide (c ∈ letters.cps.toList)
def isWord : D → Bool
  | .str z => wordS z
  | _ => false
theorem is_word_str {z : Str} (hz : z.length ≤ 16777216) : F_is_word [.str z] S = .ok (.bl (wordS z)) S := by
  have e1 : lcD [1] (tgN 1) tYesD (Wd.e2 (oIn false) (eVar 1) (eC (.str "abcdefghijklmnopqrstuvwxyz"))) (signs z) [] ⟨[.val (.str z), .un], S⟩ = .ok (z.cps.toList.map fun c => .bl (decide (c ∈ letters.cps.toList))) ⟨[.val (.str z), .un], S⟩ :=
    lcD_of (enc := fun c => D.str ⟨#[c]⟩) _ (fun c _ => by simp [letters]) (by simpa [Str.length] using hz)
  by_cases h1 : 1 ≤ z.length
  · by_cases h2 : z.length ≤ 8
    · simp [F_is_word, b_is_word, ev_run, hz, show (1 : Int) ≤ z.length by omega, show (z.length : Int) ≤ 8 by omega, e1, ev_all_map, wordS, h1, h2]
    · simp [F_is_word, b_is_word, ev_run, hz, show (1 : Int) ≤ z.length by omega, show ¬ (z.length : Int) ≤ 8 by omega, wordS, h1, h2]
  · simp [F_is_word, b_is_word, ev_run, hz, show ¬ (1 : Int) ≤ z.length by omega, wordS, h1]
theorem flt0 {α : Type} {l : List α} {p : α → Bool} : decide (l.filter (fun c => !p c) = []) = l.all p := by
  rw [Bool.eq_iff_iff]
  simp [List.filter_eq_nil_iff]
theorem law_is_word_str {z : Str} (hz : z.length ≤ 16777216) : F_law_is_word [.str z] S = .ok (.bl (wordS z)) S := by
  obtain ⟨l, hl⟩ : ∃ l, l = z.cps.toList.filter fun c => !decide (c ∈ letters.cps.toList) := ⟨_, rfl⟩
  have e1 : lcD [1] (tgN 1) (tOf (Wd.e2 (oIn true) (eVar 1) (eC (.str "abcdefghijklmnopqrstuvwxyz")))) (eVar 1) (signs z) [] ⟨[.val (.str z), .un], S⟩ = .ok (l.map fun c => .str ⟨#[c]⟩) ⟨[.val (.str z), .un], S⟩ := by
    rw [hl]
    refine lcD_if (enc := fun c => D.str ⟨#[c]⟩) _ (fun c _ => ?_) (by simpa [Str.length] using hz)
    by_cases h : c ∈ letters.cps.toList
    · simp only [letters] at h
      simp [letters, h]
    · simp only [letters] at h
      simp [letters, h]
  obtain ⟨q, hq⟩ : ∃ q, q = z.cps.toList.all fun c => decide (c ∈ letters.cps.toList) := ⟨_, rfl⟩
  have e2 : decide (l = []) = q := by rw [hl, hq]; exact flt0
  have e3 : wordS z = (decide (1 ≤ z.length ∧ z.length ≤ 8) && q) := by rw [hq]; rfl
  rw [e3]
  by_cases h1 : 1 ≤ z.length
  · by_cases h2 : z.length ≤ 8
    · simp [F_law_is_word, b_law_is_word, ev_run, hz, show (1 : Int) ≤ z.length by omega, show (z.length : Int) ≤ 8 by omega, e1, e2, h1, h2]
    · simp [F_law_is_word, b_law_is_word, ev_run, hz, show (1 : Int) ≤ z.length by omega, show ¬ (z.length : Int) ≤ 8 by omega, h1, h2]
  · simp [F_law_is_word, b_law_is_word, ev_run, hz, show ¬ (1 : Int) ≤ z.length by omega, h1]
theorem is_word_ok {k : Nat} {d e : D} (hd : Dat k d) (hh : Hand k d e) : F_is_word [e] S = .ok (.bl (isWord d)) S := by
  refine hd.hand (P := fun d e => F_is_word [e] S = .ok (.bl (isWord d)) S) hh ?_ (fun _ => ?_) (fun _ => ?_) (fun z hz => is_word_str hz) (fun _ _ _ _ _ _ _ _ _ => ?_)
  all_goals simp [F_is_word, b_is_word, ev_run, isWord]
theorem law_is_word_ok {k : Nat} {d : D} (hd : Dat k d) : F_law_is_word [d] S = .ok (.bl (isWord d)) S := by
  refine hd.cases (P := fun d => F_law_is_word [d] S = .ok (.bl (isWord d)) S) ?_ (fun _ => ?_) (fun _ => ?_) (fun z hz => law_is_word_str hz) (fun _ _ _ _ _ => ?_)
  all_goals simp [F_law_is_word, b_law_is_word, ev_run, isWord]
/-! ### numbers -/
def isWithin (lo hi : Int) : D → Bool
  | .int i => inR lo hi i
  | _ => false
theorem is_within_ok {k : Nat} {d e : D} {lo hi : Int} (hd : Dat k d) (hh : Hand k d e) : F_is_within [e, .int lo, .int hi] S = .ok (.bl (isWithin lo hi d)) S := by
  refine hd.hand (P := fun d e => F_is_within [e, .int lo, .int hi] S = .ok (.bl (isWithin lo hi d)) S) hh ?_ (fun _ => ?_) (fun _ => is_within_int) (fun z hz => ?_) (fun _ _ _ _ _ _ _ _ _ => ?_)
  all_goals simp [F_is_within, b_is_within, F_is_integer, b_is_integer, ev_run, isWithin]
theorem law_between_ok {k : Nat} {d : D} {lo hi : Int} (hd : Dat k d) : F_law_between [d, .int lo, .int hi] S = .ok (.bl (isWithin lo hi d)) S := by
  refine hd.cases (P := fun d => F_law_between [d, .int lo, .int hi] S = .ok (.bl (isWithin lo hi d)) S) ?_ (fun _ => ?_) (fun i => ?_) (fun z hz => ?_) (fun _ _ _ _ _ => ?_)
  · simp [F_law_between, b_law_between, F_law_whole, b_law_whole, ev_run, isWithin]
  · simp [F_law_between, b_law_between, F_law_whole, b_law_whole, ev_run, isWithin]
  · by_cases h : lo ≤ i <;> simp [F_law_between, b_law_between, F_law_whole, b_law_whole, ev_run, isWithin, inR, h]
  · simp [F_law_between, b_law_between, F_law_whole, b_law_whole, ev_run, isWithin]
  · simp [F_law_between, b_law_between, F_law_whole, b_law_whole, ev_run, isWithin]
/-! ### places -/
theorem intsOf_some : ∀ {ds : List D} {ns : List Int}, intsOf ds = some ns → ds = dInts ns
  | [], ns, h => by simp [intsOf] at h; subst h; rfl
  | .int i :: ds, ns, h => by
    simp only [intsOf, Option.map_eq_some_iff] at h
    obtain ⟨ms, h1, rfl⟩ := h
    rw [intsOf_some h1]
    rfl
  | .non :: _, _, h => by simp [intsOf] at h
  | .bl _ :: _, _, h => by simp [intsOf] at h
  | .str _ :: _, _, h => by simp [intsOf] at h
  | .tup _ :: _, _, h => by simp [intsOf] at h
  | .lst _ :: _, _, h => by simp [intsOf] at h
  | .ro _ :: _, _, h => by simp [intsOf] at h
  | .loc _ :: _, _, h => by simp [intsOf] at h
theorem intsOf_none : ∀ {ds : List D} {lo hi : Int}, intsOf ds = none → (ds.all (isWithin lo hi)) = false
  | [], _, _, h => by simp [intsOf] at h
  | .int i :: ds, _, _, h => by
    simp only [intsOf, Option.map_eq_none_iff] at h
    rw [List.all_cons, intsOf_none h, Bool.and_false]
  | .non :: _, _, _, h => by simp [isWithin]
  | .bl _ :: _, _, _, h => by simp [isWithin]
  | .str _ :: _, _, _, h => by simp [isWithin]
  | .tup _ :: _, _, _, h => by simp [isWithin]
  | .lst _ :: _, _, _, h => by simp [isWithin]
  | .ro _ :: _, _, _, h => by simp [isWithin]
  | .loc _ :: _, _, _, h => by simp [isWithin]
theorem hands_ints {k : Nat} {ns : List Int} {es : List D} (h : Hands k (dInts ns) es) : es = dInts ns := by
  refine List.ext_getElem (by simpa using h.1) fun i hi hj => ?_
  have := h.2 i (by simpa using hj) hi
  simp at this
  simp [this]
def isBelow (many : Int) : D → Bool
  | .tup ds => (match intsOf ds with
    | some ns => below ns many
    | none => false)
  | _ => false
theorem isBelow_iff {many : Int} : isBelow many d = true ↔ ∃ ns, d = .tup (dInts ns) ∧ below ns many = true := by
  constructor
  · intro h
    match d, h with
    | .tup ds, h =>
      simp only [isBelow] at h
      cases e : intsOf ds with
      | none => rw [e] at h; cases h
      | some ns => rw [e] at h; exact ⟨ns, by rw [intsOf_some e], h⟩
  · rintro ⟨ns, rfl, h⟩
    simp [isBelow, h]
theorem are_below_ok {k : Nat} {d e : D} {many : Int} (hd : Dat k d) (hh : Hand k d e) : F_are_below [e, .int many] S = .ok (.bl (isBelow many d)) S := by
  refine hd.hand (P := fun d e => F_are_below [e, .int many] S = .ok (.bl (isBelow many d)) S) hh ?_ (fun _ => ?_) (fun _ => ?_) (fun z hz => ?_) (fun j ds b es _ hl hs h1 h2 => ?_)
  · simp [F_are_below, b_are_below, ev_run, is_sequence_non, isBelow]
  · simp [F_are_below, b_are_below, ev_run, is_sequence_bl, isBelow]
  · simp [F_are_below, b_are_below, ev_run, is_sequence_int, isBelow]
  · simp [F_are_below, b_are_below, ev_run, is_sequence_str, isBelow]
  · cases hi : intsOf ds with
    | some ns =>
      have := intsOf_some hi
      subst this
      have h3 : es = dInts ns := hands_ints ⟨h1, h2⟩
      subst h3
      rw [are_below_sq (by simpa using hl)]
      simp [isBelow]
    | none =>
      have e1 : lcD [3] (tgN 3) tYesD (fCall F_is_within (aCons (eVar 3) (aCons (eC (D.int 0)) (aCons (e2 oSub (eVar 1) (eC (D.int 1))) aNil)))) es [] { r := [Sl.val (sq b es), Sl.val (D.int many), Sl.un, Sl.un], S := S } =
          .ok ((List.range es.length).map fun i => .bl (isWithin 0 (many - 1) ((ds[i]?).getD .non))) { r := [Sl.val (sq b es), Sl.val (D.int many), Sl.un, Sl.un], S := S } := by
        have e0 : es = (List.range es.length).map fun i => (es[i]?).getD .non := by
          refine List.ext_getElem (by simp) fun i hi hj => ?_
          simp [hi]
        conv => lhs; arg 5; rw [e0]
        refine lcD_of (enc := fun i => (es[i]?).getD .non) _ (fun i hi => ?_) (by simp; omega)
        rw [List.mem_range] at hi
        have hi' : i < ds.length := by omega
        have := is_within_ok (S := S) (lo := 0) (hi := many - 1) (hs _ (List.getElem_mem hi')) (h2 i hi' hi)
        simp [hi, hi', this]
      have e2 : (List.range es.length).all (fun i => isWithin 0 (many - 1) ((ds[i]?).getD .non)) = false := by
        have h3 := intsOf_none (lo := 0) (hi := many - 1) hi
        rw [List.all_eq_false] at h3 ⊢
        obtain ⟨x, hx, h4⟩ := h3
        obtain ⟨i, hi, rfl⟩ := List.mem_iff_getElem.mp hx
        exact ⟨i, List.mem_range.mpr (by omega), by simpa [hi] using h4⟩
      simp [F_are_below, b_are_below, ev_run, is_sequence_sq, e1, ev_all_map, e2, isBelow, hi]
end Wh

namespace Wh
open PySem PySem.Spec PyProof.Rows L2 Wd
variable {m : Ms} {r : List Sl} {S : Store} {ds : List D} {b : Bool} {d : D}
def wBetween (lo hi : Int) (x : D) : Bool := !isWithin lo hi x
/-- rows that rise: the law's test -/
theorem law_rising_ok {k : Nat} {many : Int} (hd : Dat k d) : F_law_rising [d, .int 0, .int (many - 1)] S = .ok (.bl (isBelow many d)) S := by
  refine hd.cases (P := fun d => F_law_rising [d, .int 0, .int (many - 1)] S = .ok (.bl (isBelow many d)) S) ?_ (fun _ => ?_) (fun _ => ?_) (fun z hz => ?_) (fun j ds _ hl hs => ?_)
  · simp [F_law_rising, b_law_rising, ev_run, isBelow]
  · simp [F_law_rising, b_law_rising, ev_run, isBelow]
  · simp [F_law_rising, b_law_rising, ev_run, isBelow]
  · simp [F_law_rising, b_law_rising, ev_run, isBelow]
  · obtain ⟨l, hl'⟩ : ∃ l, l = ds.filter fun x => !isWithin 0 (many - 1) x := ⟨_, rfl⟩
    have e1 : lcD [4] (tgN 4) (tNotD (tOf (fCall F_law_between (aCons (eVar 4) (aCons (eVar 1) (aCons (eVar 2) aNil)))))) (eVar 4) ds [] ⟨[.val (.tup ds), .val (.int 0), .val (.int (many - 1)), .un, .un], S⟩ = .ok l ⟨[.val (.tup ds), .val (.int 0), .val (.int (many - 1)), .un, .un], S⟩ := by
      have := lcD_if (vs := [4]) (tg := tgN 4) (t := tNotD (tOf (fCall F_law_between (aCons (eVar 4) (aCons (eVar 1) (aCons (eVar 2) aNil)))))) (f := eVar 4) (enc := id) (k := id) (p := fun x => !isWithin 0 (many - 1) x)
        (m := ⟨[.val (.tup ds), .val (.int 0), .val (.int (many - 1)), .un, .un], S⟩) ds (fun x hx => by
          have e := law_between_ok (S := S) (lo := 0) (hi := many - 1) (hs x hx)
          cases h : isWithin 0 (many - 1) x <;> simp [e, h]) hl
      simpa [hl'] using this
    have e2 : decide (l = []) = ds.all (isWithin 0 (many - 1)) := by rw [hl']; exact flt0
    cases hi : intsOf ds with
    | none =>
      rw [intsOf_none hi] at e2
      have h3 : 0 < l.length := List.length_pos_iff.mpr (by simpa using e2)
      simp [F_law_rising, b_law_rising, ev_run, e1, h3, isBelow, hi]
    | some ns =>
      have e3 := intsOf_some hi
      subst e3
      have e4 : (dInts ns).all (isWithin 0 (many - 1)) = ns.all (inR 0 (many - 1)) := by
        rw [List.all_map]
        rfl
      rw [e4] at e2
      cases hb : ns.all (inR 0 (many - 1)) with
      | false =>
        rw [hb] at e2
        have h3 : 0 < l.length := List.length_pos_iff.mpr (by simpa using e2)
        simp [F_law_rising, b_law_rising, ev_run, e1, h3, isBelow, hi, below, hb]
      | true =>
        rw [hb] at e2
        have h3 : l = [] := by simpa using e2
        subst h3
        have hln : ns.length ≤ 16777216 := by simpa using hl
        obtain ⟨q, hq⟩ : ∃ q, q = (List.range (ns.length - 1)).filter fun i => !risesAt ns i := ⟨_, rfl⟩
        have e5 : lcD [3] (tgN 3) (tOf (Wd.e2 oGe (e2V oIx 0 (Wd.e2 oSub (eVar 3) (eC (.int 1)))) (e2V oIx 0 (eVar 3)))) (eVar 3) (rgD 1 ns.length) [] ⟨[.val (.tup (dInts ns)), .val (.int 0), .val (.int (many - 1)), .un, .un], S⟩ = .ok (q.map fun (i : Nat) => .int (1 + i)) ⟨[.val (.tup (dInts ns)), .val (.int 0), .val (.int (many - 1)), .un, .un], S⟩ := by
          rw [hq]
          unfold rgD
          rw [show ((ns.length : Int) - 1).toNat = ns.length - 1 by omega]
          refine lcD_if (enc := fun (i : Nat) => D.int (1 + i)) _ (fun i hi => ?_) (by simp; omega)
          rw [List.mem_range] at hi
          have h1 : (1 + (i : Int)) - 1 = i := by omega
          have h2 : (i : Int) < ns.length := by omega
          have h3 : (1 + (i : Int)) < ns.length := by omega
          have h4 : (1 + (i : Int)).toNat = i + 1 := by omega
          have h5 : i < ns.length := by omega
          have h6 : i + 1 < ns.length := by omega
          by_cases h7 : ns[i] < ns[i + 1]
          · simp [atI_nat, h1, h2, h3, h4, h5, h6, show (0 : Int) ≤ 1 + i by omega, risesAt, h7, show ¬ ns[i + 1] ≤ ns[i] by omega]
          · simp [atI_nat, h1, h2, h3, h4, h5, h6, show (0 : Int) ≤ 1 + i by omega, risesAt, h7, show ns[i + 1] ≤ ns[i] by omega]
        have e6 : decide (q = []) = (List.range (ns.length - 1)).all (risesAt ns) := by rw [hq]; exact flt0
        obtain ⟨z, hz⟩ : ∃ z, z = (List.range (ns.length - 1)).all (risesAt ns) := ⟨_, rfl⟩
        rw [← hz] at e6
        have e7 : isBelow many (.tup (dInts ns)) = z := by simp only [isBelow, intsOf_map, below, hb, Bool.true_and, hz]
        rw [e7]
        simp [F_law_rising, b_law_rising, ev_run, e1, e5, e6, show (ns.length : Int) ≤ 1000000000 by omega, show -1000000000 ≤ (ns.length : Int) by omega]
/-! ### places, calendars -/
def someD : D → Bool
  | .tup ds => !ds.isEmpty
  | _ => false
theorem someD_ints {ns : List Int} : someD (.tup (ns.map D.int)) = decide ((0 : Int) < ns.length) := by
  cases ns with
  | nil => rfl
  | cons n ns =>
    show true = _
    rw [decide_eq_true]
    simp
def isPlaces (many : Int) (d : D) : Bool := isBelow many d && someD d
theorem isPlaces_iff {many : Int} : isPlaces many d = true ↔ ∃ ns, d = .tup (dInts ns) ∧ below ns many = true ∧ ns ≠ [] := by
  unfold isPlaces
  rw [Bool.and_eq_true, isBelow_iff]
  constructor
  · rintro ⟨⟨ns, rfl, h⟩, h2⟩
    exact ⟨ns, rfl, h, by rintro rfl; simp [someD] at h2⟩
  · rintro ⟨ns, rfl, h, h2⟩
    exact ⟨⟨ns, rfl, h⟩, by simp [someD, h2]⟩
theorem isBelow_hand {k : Nat} {many : Int} {d e : D} (h : isBelow many d = true) (hh : Hand k d e) : ∃ b ns, e = sq b (dInts ns) ∧ d = .tup (dInts ns) ∧ below ns many = true := by
  obtain ⟨ns, rfl, h1⟩ := isBelow_iff.mp h
  cases k with
  | zero => exact hh.elim
  | succ k =>
    obtain ⟨b, es, rfl, h2, h3⟩ := hh.tup
    exact ⟨b, ns, by rw [hands_ints ⟨h2, h3⟩], rfl, h1⟩
theorem are_places_ok {k : Nat} {d e : D} {many : Int} (hd : Dat k d) (hh : Hand k d e) : F_are_places [e, .int many] S = .ok (.bl (isPlaces many d)) S := by
  have e1 := are_below_ok (S := S) (many := many) hd hh
  cases hb : isBelow many d with
  | false =>
    rw [hb] at e1
    simp [F_are_places, b_are_places, ev_run, e1, isPlaces, hb]
  | true =>
    obtain ⟨b, ns, rfl, rfl, h1⟩ := isBelow_hand hb hh
    rw [hb] at e1
    simp [F_are_places, b_are_places, ev_run, e1, isPlaces, hb, someD_ints]
def iOf : D → Int
  | .int i => i
  | _ => 0
def isCal : D → Bool
  | .non => true
  | .tup [a, p] => isWithin 1 28 a && isPlaces (iOf a) p
  | _ => false
theorem isWithin_iff {lo hi : Int} : isWithin lo hi d = true ↔ ∃ i, d = .int i ∧ lo ≤ i ∧ i ≤ hi := by
  constructor
  · intro h
    match d, h with
    | .int i, h => exact ⟨i, rfl, inR_iff.mp h⟩
  · rintro ⟨i, rfl, h⟩
    exact inR_iff.mpr h
theorem is_calendar_gen {k : Nat} {d e : D} (hd : Dat k d) (hh : Hand k d e) : F_is_calendar [e] S = .ok (.bl (isCal d)) S := by
  refine hd.hand (P := fun d e => F_is_calendar [e] S = .ok (.bl (isCal d)) S) hh ?_ (fun _ => ?_) (fun _ => ?_) (fun z hz => ?_) (fun j ds b es _ hl hs h1 h2 => ?_)
  · simp [F_is_calendar, b_is_calendar, ev_run, isCal]
  · simp [F_is_calendar, b_is_calendar, F_is_row, b_is_row, is_sequence_bl, ev_run, isCal]
  · simp [F_is_calendar, b_is_calendar, F_is_row, b_is_row, is_sequence_int, ev_run, isCal]
  · simp [F_is_calendar, b_is_calendar, F_is_row, b_is_row, is_sequence_str, ev_run, isCal]
  · have hH : Hands j ds es := ⟨h1, h2⟩
    by_cases hn : ds.length = 2
    · match ds, hn with
      | [a, p], _ =>
        obtain ⟨ea, es1, rfl, ha, hH⟩ := hH.cons
        obtain ⟨ep, es2, rfl, hp, hH⟩ := hH.cons
        have := hH.nil
        subst this
        have f1 := is_within_ok (S := S) (lo := 1) (hi := 28) (hs a (by simp)) ha
        cases hw : isWithin 1 28 a with
        | false =>
          rw [hw] at f1
          simp [F_is_calendar, b_is_calendar, is_row_sq, ev_run, isCal, f1, hw, show inR 2 2 2 = true from rfl]
        | true =>
          obtain ⟨L, rfl, g1, g2⟩ := isWithin_iff.mp hw
          simp at ha
          subst ha
          have f2 := are_below_ok (S := S) (many := L) (hs p (by simp)) hp
          rw [hw] at f1
          cases hb : isBelow L p with
          | false =>
            rw [hb] at f2
            simp [F_is_calendar, b_is_calendar, is_row_sq, ev_run, isCal, f1, hw, show inR 2 2 2 = true from rfl, f2, iOf, isPlaces, hb]
          | true =>
            obtain ⟨b', ns, rfl, rfl, h1⟩ := isBelow_hand hb hp
            rw [hb] at f2
            simp [F_is_calendar, b_is_calendar, is_row_sq, ev_run, isCal, f1, hw, show inR 2 2 2 = true from rfl, f2, iOf, isPlaces, hb, someD_ints]
    · have f0 : inR 2 2 (es.length : Int) = false := by
        rw [Bool.eq_false_iff, Ne, inR_iff]
        omega
      have f1 : isCal (.tup ds) = false := by
        unfold isCal
        split
        · rename_i h; cases h
        · rename_i h; cases h; simp at hn
        · rfl
      simp [F_is_calendar, b_is_calendar, is_row_sq, ev_run, f0, f1]
theorem law_is_calendar_gen {k : Nat} {d : D} (hd : Dat k d) : F_law_is_calendar [d] S = .ok (.bl (isCal d)) S := by
  refine hd.cases (P := fun d => F_law_is_calendar [d] S = .ok (.bl (isCal d)) S) ?_ (fun _ => ?_) (fun _ => ?_) (fun z hz => ?_) (fun j ds _ hl hs => ?_)
  · simp [F_law_is_calendar, b_law_is_calendar, ev_run, isCal]
  · simp [F_law_is_calendar, b_law_is_calendar, ev_run, isCal]
  · simp [F_law_is_calendar, b_law_is_calendar, ev_run, isCal]
  · simp [F_law_is_calendar, b_law_is_calendar, ev_run, isCal]
  · by_cases hn : ds.length = 2
    · match ds, hn with
      | [a, p], _ =>
        have f1 := law_between_ok (S := S) (lo := 1) (hi := 28) (hs a (by simp))
        cases hw : isWithin 1 28 a with
        | false =>
          rw [hw] at f1
          simp [F_law_is_calendar, b_law_is_calendar, ev_run, isCal, f1, hw]
        | true =>
          obtain ⟨L, rfl, g1, g2⟩ := isWithin_iff.mp hw
          have f2 := law_rising_ok (S := S) (many := L) (hs p (by simp))
          rw [hw] at f1
          cases hb : isBelow L p with
          | false =>
            rw [hb] at f2
            simp [F_law_is_calendar, b_law_is_calendar, ev_run, isCal, f1, hw, f2, iOf, isPlaces, hb]
          | true =>
            obtain ⟨ns, rfl, h1⟩ := isBelow_iff.mp hb
            rw [hb] at f2
            simp [F_law_is_calendar, b_law_is_calendar, ev_run, isCal, f1, hw, f2, iOf, isPlaces, hb, someD_ints]
    · have f1 : isCal (.tup ds) = false := by
        unfold isCal
        split
        · rename_i h; cases h
        · rename_i h; cases h; simp at hn
        · rfl
      simp [F_law_is_calendar, b_law_is_calendar, ev_run, show ¬ (ds.length : Int) = 2 by omega, f1]
end Wh

namespace Wh
open PySem PySem.Spec PyProof.Rows L2 Wd
variable {m : Ms} {r : List Sl} {S : Store} {ds : List D} {b : Bool} {d : D}
/-! ### kinds -/
def isNon : D → Bool
  | .non => true
  | _ => false
def isUndo (d : D) : Bool := isNon d || isWord d
def kSignal : List D → Bool
  | [w] => isWord w
  | _ => false
def kWait : List D → Bool
  | [t, c] => isWithin 1 1000 t && isCal c
  | _ => false
def kTask : List D → Bool
  | [w, t, l, u] => isWord w && (isWithin 1 5 t && (isWithin 1 1000 l && isUndo u))
  | _ => false
theorem kSignal_len (h : ds.length ≠ 1) : kSignal ds = false := by
  unfold kSignal
  split
  · simp at h
  · rfl
theorem kWait_len (h : ds.length ≠ 2) : kWait ds = false := by
  unfold kWait
  split
  · simp at h
  · rfl
theorem kTask_len (h : ds.length ≠ 4) : kTask ds = false := by
  unfold kTask
  split
  · simp at h
  · rfl
def kindRest (z : Str) (ds : List D) : Bool :=
  if z = "plain" ∨ z = "choice" then ds.isEmpty
  else if z = "signal" then kSignal ds
  else if z = "wait" then kWait ds
  else if z = "task" then kTask ds
  else false
def isKind : D → Bool
  | .tup (.str z :: ds) => kindRest z ds
  | _ => false
theorem undo_eval {k : Nat} {d e : D} (hd : Dat k d) (hh : Hand k d e) : oIsN false e .non m = .ok (.bl (isNon d)) m := by
  refine hd.hand (P := fun d e => oIsN false e .non m = .ok (.bl (isNon d)) m) hh ?_ (fun _ => ?_) (fun _ => ?_) (fun z hz => ?_) (fun j ds b es _ hl hs h1 h2 => ?_)
  all_goals simp [isNon]
theorem Hand.isStr {k : Nat} {d e : D} (hd : Dat k d) (hh : Hand k d e) : isT .str e = isT .str d := by
  refine hd.hand (P := fun d e => isT .str e = isT .str d) hh rfl (fun _ => rfl) (fun _ => rfl) (fun z hz => rfl) (fun j ds b es _ hl hs h1 h2 => ?_)
  simp
theorem isStr_iff : isT .str d = true ↔ ∃ z, d = .str z := by
  constructor
  · intro h
    match d, h with
    | .str z, _ => exact ⟨z, rfl⟩
  · rintro ⟨z, rfl⟩; rfl
/-- the tests of the program over a kind -/
theorem is_task_kind_ok {k : Nat} {z : Str} {ds es : List D} (hs : ∀ d ∈ ds, Dat k d) (hH : Hands k ds es) : F_is_task_kind [sq b (.str z :: es)] S = .ok (.bl (kTask ds)) S := by
  by_cases hn : ds.length = 4
  · match ds, hn with
    | [w, t, l, u], _ =>
      obtain ⟨w', es1, rfl, hw, hH⟩ := hH.cons
      obtain ⟨t', es2, rfl, ht, hH⟩ := hH.cons
      obtain ⟨l', es2, rfl, hll, hH⟩ := hH.cons
      obtain ⟨u', es2, rfl, hu, hH⟩ := hH.cons
      have := hH.nil
      subst this
      have f1 := is_word_ok (S := S) (hs w (by simp)) hw
      have f2 := is_within_ok (S := S) (lo := 1) (hi := 5) (hs t (by simp)) ht
      have f3 := is_within_ok (S := S) (lo := 1) (hi := 1000) (hs l (by simp)) hll
      have f4 := is_word_ok (S := S) (hs u (by simp)) hu
      have f5 : ∀ m, oIsN false u' .non m = .ok (.bl (isNon u)) m := fun m => undo_eval (hs u (by simp)) hu
      cases h1 : isWord w with
      | false => rw [h1] at f1; simp [F_is_task_kind, b_is_task_kind, ev_run, f1, h1, kTask]
      | true =>
        rw [h1] at f1
        cases h2 : isWithin 1 5 t with
        | false => rw [h2] at f2; simp [F_is_task_kind, b_is_task_kind, ev_run, f1, f2, h1, h2, kTask]
        | true =>
          rw [h2] at f2
          cases h3 : isWithin 1 1000 l with
          | false => rw [h3] at f3; simp [F_is_task_kind, b_is_task_kind, ev_run, f1, f2, f3, h1, h2, h3, kTask]
          | true =>
            rw [h3] at f3
            cases h4 : isNon u with
            | true => simp [F_is_task_kind, b_is_task_kind, ev_run, f1, f2, f3, f5, h1, h2, h3, h4, isUndo, kTask]
            | false => simp [F_is_task_kind, b_is_task_kind, ev_run, f1, f2, f3, f4, f5, h1, h2, h3, h4, isUndo, kTask]
  · have f0 := hH.1
    have f1 : ¬ (((es.length : Int) + 1) = 5) := by omega
    simp [F_is_task_kind, b_is_task_kind, ev_run, f1, kTask_len hn]
theorem lenZ {es : List D} : decide ((es.length : Int) + 1 = 1) = decide (es = []) := by
  rw [decide_eq_decide]
  constructor
  · intro h; exact List.length_eq_zero_iff.mp (by omega)
  · rintro rfl; rfl
theorem is_kind_str {k : Nat} {z : Str} {ds es : List D} (hs : ∀ d ∈ ds, Dat k d) (hH : Hands k ds es) (h5 : es.length ≤ 4) : F_is_kind [sq b (.str z :: es)] S = .ok (.bl (kindRest z ds)) S := by
  have f0 := hH.1
  have f1 : inR 1 5 ((es.length : Int) + 1) = true := inR_t (by omega) (by omega)
  by_cases z1 : z = "plain" ∨ z = "choice"
  · have f2 : kindRest z ds = decide (es = []) := by
      unfold kindRest
      rw [if_pos z1]
      cases ds with
      | nil => simp at f0; subst f0; rfl
      | cons d ds => 
        cases es with
        | nil => simp at f0
        | cons e es => simp
    rw [f2]
    rcases z1 with rfl | rfl
    · simp [F_is_kind, b_is_kind, ev_run, is_row_sq, f1, lenZ]
    · simp [F_is_kind, b_is_kind, ev_run, is_row_sq, f1, lenZ, show ¬ (("choice" : Str) = "plain") by decide]
  · have z2 : ¬ z = "plain" := fun h => z1 (.inl h)
    have z3 : ¬ z = "choice" := fun h => z1 (.inr h)
    by_cases z4 : z = "signal"
    · have f2 : kindRest z ds = kSignal ds := by
        unfold kindRest
        rw [if_neg z1, if_pos z4]
      rw [f2]
      by_cases hn : ds.length = 1
      · match ds, hn with
        | [w], _ =>
          obtain ⟨w', es1, rfl, hw, hH⟩ := hH.cons
          have := hH.nil
          subst this
          have f3 := is_word_ok (S := S) (hs w (by simp)) hw
          simp [F_is_kind, b_is_kind, ev_run, is_row_sq, show inR 1 5 2 = true from rfl, z2, z3, z4, f3, kSignal, show ¬ (("signal" : Str) = "plain") by decide, show ¬ (("signal" : Str) = "choice") by decide]
      · simp [F_is_kind, b_is_kind, ev_run, is_row_sq, f1, z4, kSignal_len hn, show ¬ ((es.length : Int) + 1 = 2) by omega, show ¬ (("signal" : Str) = "plain") by decide, show ¬ (("signal" : Str) = "choice") by decide]
    · by_cases z5 : z = "wait"
      · have f2 : kindRest z ds = kWait ds := by
          unfold kindRest
          rw [if_neg z1, if_neg z4, if_pos z5]
        rw [f2]
        subst z5
        by_cases hn : ds.length = 2
        · match ds, hn with
          | [t, c], _ =>
            obtain ⟨t', es1, rfl, ht, hH⟩ := hH.cons
            obtain ⟨c', es1, rfl, hc, hH⟩ := hH.cons
            have := hH.nil
            subst this
            have f3 := is_within_ok (S := S) (lo := 1) (hi := 1000) (hs t (by simp)) ht
            have f4 := is_calendar_gen (S := S) (hs c (by simp)) hc
            cases h1 : isWithin 1 1000 t with
            | false => rw [h1] at f3; simp [F_is_kind, b_is_kind, ev_run, is_row_sq, show inR 1 5 3 = true from rfl, z2, z3, z4, f3, h1, kWait]
            | true => rw [h1] at f3; simp [F_is_kind, b_is_kind, ev_run, is_row_sq, show inR 1 5 3 = true from rfl, z2, z3, z4, f3, f4, h1, kWait]
        · simp [F_is_kind, b_is_kind, ev_run, is_row_sq, f1, z2, z3, z4, kWait_len hn, show ¬ ((es.length : Int) + 1 = 3) by omega]
      · by_cases z6 : z = "task"
        · have f2 : kindRest z ds = kTask ds := by
            unfold kindRest
            rw [if_neg z1, if_neg z4, if_neg z5, if_pos z6]
          rw [f2]
          subst z6
          simp [F_is_kind, b_is_kind, ev_run, is_row_sq, f1, z2, z3, z4, z5, is_task_kind_ok hs hH]
        · have f2 : kindRest z ds = false := by
            unfold kindRest
            rw [if_neg z1, if_neg z4, if_neg z5, if_neg z6]
          rw [f2]
          simp [F_is_kind, b_is_kind, ev_run, is_row_sq, f1, z2, z3, z4, z5, z6]
theorem kindRest_len {z : Str} (h : 4 < ds.length) : kindRest z ds = false := by
  unfold kindRest
  split
  · cases ds with
    | nil => simp at h
    | cons d ds => rfl
  · split
    · exact kSignal_len (by omega)
    · split
      · exact kWait_len (by omega)
      · split
        · exact kTask_len (by omega)
        · rfl
theorem isKind_str {d : D} {ds : List D} (h : isT .str d = false) : isKind (.tup (d :: ds)) = false := by
  match d, h with
  | .non, _ => rfl
  | .bl _, _ => rfl
  | .int _, _ => rfl
  | .tup _, _ => rfl
  | .lst _, _ => rfl
  | .ro _, _ => rfl
  | .loc _, _ => rfl
theorem is_kind_ok {k : Nat} {d e : D} (hd : Dat k d) (hh : Hand k d e) : F_is_kind [e] S = .ok (.bl (isKind d)) S := by
  refine hd.hand (P := fun d e => F_is_kind [e] S = .ok (.bl (isKind d)) S) hh ?_ (fun _ => ?_) (fun _ => ?_) (fun z hz => ?_) (fun j ds b es _ hl hs h1 h2 => ?_)
  · simp [F_is_kind, b_is_kind, F_is_row, b_is_row, is_sequence_non, ev_run, isKind]
  · simp [F_is_kind, b_is_kind, F_is_row, b_is_row, is_sequence_bl, ev_run, isKind]
  · simp [F_is_kind, b_is_kind, F_is_row, b_is_row, is_sequence_int, ev_run, isKind]
  · simp [F_is_kind, b_is_kind, F_is_row, b_is_row, is_sequence_str, ev_run, isKind]
  · have hH : Hands j ds es := ⟨h1, h2⟩
    cases hr : inR 1 5 (es.length : Int) with
    | false =>
      have h3 : ¬ (1 ≤ (es.length : Int) ∧ (es.length : Int) ≤ 5) := by
        rw [← inR_iff, hr]
        simp
      have h4 : isKind (.tup ds) = false := by
        match ds, h1 with
        | [], _ => rfl
        | .str z :: ds, h1 =>
          refine kindRest_len ?_
          simp at h1
          omega
        | .non :: _, _ => rfl
        | .bl _ :: _, _ => rfl
        | .int _ :: _, _ => rfl
        | .tup _ :: _, _ => rfl
        | .lst _ :: _, _ => rfl
        | .ro _ :: _, _ => rfl
        | .loc _ :: _, _ => rfl
      simp [F_is_kind, b_is_kind, ev_run, is_row_sq, hr, h4]
    | true =>
      have h3 := inR_iff.mp hr
      match ds, h1 with
      | [], h1 => simp at h1; subst h1; simp at h3
      | d :: ds, h1 =>
        obtain ⟨e, es1, rfl, hw, hH2⟩ := hH.cons
        have hi := hw.isStr (hs d (by simp))
        cases hq : isT .str d with
        | false =>
          rw [hq] at hi
          have h4 := isKind_str (ds := ds) hq
          simp at hr
          simp [F_is_kind, b_is_kind, ev_run, is_row_sq, hr, hi, h4]
        | true =>
          obtain ⟨z, rfl⟩ := isStr_iff.mp hq
          simp at hw
          subst hw
          simp at h3
          exact is_kind_str (fun d hd => hs d (by simp [hd])) hH2 (by omega)
/-- the law's tests -/
theorem law_is_kind_str {k : Nat} {z : Str} {ds : List D} (hs : ∀ d ∈ ds, Dat k d) : F_law_is_kind [.tup (.str z :: ds)] S = .ok (.bl (kindRest z ds)) S := by
  have hne : ¬ ((ds.length : Int) + 1 = 0) := by omega
  by_cases z1 : z = "plain" ∨ z = "choice"
  · have f2 : kindRest z ds = decide (ds = []) := by
      unfold kindRest
      rw [if_pos z1]
      cases ds <;> simp
    rw [f2]
    rcases z1 with rfl | rfl
    · simp [F_law_is_kind, b_law_is_kind, ev_run, hne, lenZ]
    · simp [F_law_is_kind, b_law_is_kind, ev_run, hne, lenZ]
  · have z2 : ¬ "plain" = z := fun h => z1 (.inl h.symm)
    have z3 : ¬ "choice" = z := fun h => z1 (.inr h.symm)
    by_cases z4 : z = "signal"
    · have f2 : kindRest z ds = kSignal ds := by
        unfold kindRest
        rw [if_neg z1, if_pos z4]
      rw [f2]
      subst z4
      by_cases hn : ds.length = 1
      · match ds, hn with
        | [w], _ =>
          have f3 := law_is_word_ok (S := S) (hs w (by simp))
          simp [F_law_is_kind, b_law_is_kind, ev_run, z2, z3, f3, kSignal]
      · simp [F_law_is_kind, b_law_is_kind, ev_run, hne, z2, z3, kSignal_len hn, show ¬ ((ds.length : Int) + 1 = 2) by omega]
    · by_cases z5 : z = "wait"
      · have f2 : kindRest z ds = kWait ds := by
          unfold kindRest
          rw [if_neg z1, if_neg z4, if_pos z5]
        rw [f2]
        subst z5
        by_cases hn : ds.length = 2
        · match ds, hn with
          | [t, c], _ =>
            have f3 := law_between_ok (S := S) (lo := 1) (hi := 1000) (hs t (by simp))
            have f4 := law_is_calendar_gen (S := S) (hs c (by simp))
            cases h1 : isWithin 1 1000 t with
            | false => rw [h1] at f3; simp [F_law_is_kind, b_law_is_kind, ev_run, z2, z3, z4, f3, h1, kWait]
            | true => rw [h1] at f3; simp [F_law_is_kind, b_law_is_kind, ev_run, z2, z3, z4, f3, f4, h1, kWait]
        · simp [F_law_is_kind, b_law_is_kind, ev_run, hne, z2, z3, z4, kWait_len hn, show ¬ ((ds.length : Int) + 1 = 3) by omega]
      · by_cases z6 : z = "task"
        · have f2 : kindRest z ds = kTask ds := by
            unfold kindRest
            rw [if_neg z1, if_neg z4, if_neg z5, if_pos z6]
          rw [f2]
          subst z6
          by_cases hn : ds.length = 4
          · match ds, hn with
            | [w, t, l, u], _ =>
              have f1 := law_is_word_ok (S := S) (hs w (by simp))
              have f2 := law_between_ok (S := S) (lo := 1) (hi := 5) (hs t (by simp))
              have f3 := law_between_ok (S := S) (lo := 1) (hi := 1000) (hs l (by simp))
              have f4 := law_is_word_ok (S := S) (hs u (by simp))
              have f5 : ∀ m, oIsN false u .non m = .ok (.bl (isNon u)) m := fun m => undo_eval (hs u (by simp)) (hs u (by simp)).tups.self
              cases h1 : isWord w with
              | false => rw [h1] at f1; simp [F_law_is_kind, b_law_is_kind, ev_run, z2, z3, z4, z5, f1, h1, kTask]
              | true =>
                rw [h1] at f1
                cases h2 : isWithin 1 5 t with
                | false => rw [h2] at f2; simp [F_law_is_kind, b_law_is_kind, ev_run, z2, z3, z4, z5, f1, f2, h1, h2, kTask]
                | true =>
                  rw [h2] at f2
                  cases h3 : isWithin 1 1000 l with
                  | false => rw [h3] at f3; simp [F_law_is_kind, b_law_is_kind, ev_run, z2, z3, z4, z5, f1, f2, f3, h1, h2, h3, kTask]
                  | true =>
                    rw [h3] at f3
                    cases h4 : isNon u with
                    | true => simp [F_law_is_kind, b_law_is_kind, ev_run, z2, z3, z4, z5, f1, f2, f3, f5, h1, h2, h3, h4, isUndo, kTask]
                    | false => simp [F_law_is_kind, b_law_is_kind, ev_run, z2, z3, z4, z5, f1, f2, f3, f4, f5, h1, h2, h3, h4, isUndo, kTask]
          · simp [F_law_is_kind, b_law_is_kind, ev_run, hne, z2, z3, z4, z5, kTask_len hn, show ¬ ((ds.length : Int) + 1 = 5) by omega]
        · have f2 : kindRest z ds = false := by
            unfold kindRest
            rw [if_neg z1, if_neg z4, if_neg z5, if_neg z6]
          rw [f2]
          simp [F_law_is_kind, b_law_is_kind, ev_run, hne, z2, z3, z4, z5, z6]
theorem law_is_kind_ok {k : Nat} {d : D} (hd : Dat k d) : F_law_is_kind [d] S = .ok (.bl (isKind d)) S := by
  refine hd.cases (P := fun d => F_law_is_kind [d] S = .ok (.bl (isKind d)) S) ?_ (fun _ => ?_) (fun _ => ?_) (fun z hz => ?_) (fun j ds _ hl hs => ?_)
  · simp [F_law_is_kind, b_law_is_kind, ev_run, isKind]
  · simp [F_law_is_kind, b_law_is_kind, ev_run, isKind]
  · simp [F_law_is_kind, b_law_is_kind, ev_run, isKind]
  · simp [F_law_is_kind, b_law_is_kind, ev_run, isKind]
  · match ds with
    | [] => simp [F_law_is_kind, b_law_is_kind, ev_run, isKind]
    | d :: ds =>
      cases hq : isT .str d with
      | false =>
        have h4 := isKind_str (ds := ds) hq
        have hne : ¬ ((ds.length : Int) + 1 = 0) := by omega
        simp [F_law_is_kind, b_law_is_kind, ev_run, hne, hq, h4]
      | true =>
        obtain ⟨z, rfl⟩ := isStr_iff.mp hq
        exact law_is_kind_str fun d hd => hs d (by simp [hd])
end Wh

/-! loops that may return; the greatest set that feeds itself -/
namespace Wh
open PySem PySem.Spec PyProof.Rows L2 Wd
section
variable {tg : Tg} {F : Ms → SR}
/-- a loop that may return: Q then -/
theorem forD_ret {P : Nat → Ms → Prop} {Q : D → Ms → Prop} : ∀ (ds : List D) (n : Nat) (m : Ms), (∀ i d m, ds[i]? = some d → P (n + i) m → (∃ m2, (forB F (tg d m) = .next m2 ∨ forB F (tg d m) = .cnt m2) ∧ P (n + i + 1) m2) ∨ ∃ y m2, forB F (tg d m) = .ret y m2 ∧ Q y m2) → P n m →
    (∃ m', forD tg F ds m = .next m' ∧ P (n + ds.length) m') ∨ ∃ y m', forD tg F ds m = .ret y m' ∧ Q y m'
  | [], n, m, _, h => .inl ⟨m, rfl, h⟩
  | d :: ds, n, m, st, h => by
    rcases st 0 d m rfl h with ⟨m2, e, h2⟩ | ⟨y, m2, e, h2⟩
    · have ih := forD_ret (P := P) (Q := Q) ds (n + 1) m2 (fun i d' m hi hp => by
        have := st (i + 1) d' m (by simpa using hi) (by rw [show n + (i + 1) = n + 1 + i by omega]; exact hp)
        rw [show n + (i + 1) + 1 = n + 1 + i + 1 by omega] at this
        exact this) h2
      have e3 : forD tg F (d :: ds) m = forD tg F ds m2 := by
        rw [ev_for_cons]
        rcases e with e | e <;> rw [e] <;> rfl
      rw [e3, List.length_cons, show n + (ds.length + 1) = n + 1 + ds.length by omega]
      exact ih
    · refine .inr ⟨y, m2, ?_, h2⟩
      rw [ev_for_cons, e]
      rfl
end
/-! ### the greatest set that feeds itself -/
section
variable {α β : Type} (f : α → α → Bool)
def shrk (l : List α) : List α := l.filter fun a => l.any fun c => f a c
def shrkN : Nat → List α → List α
  | 0, l => l
  | n + 1, l => shrkN n (shrk f l)
theorem shrk_len (l : List α) : (shrk f l).length ≤ l.length := List.length_filter_le ..
theorem shrk_eq {l : List α} (h : (shrk f l).length = l.length) : shrk f l = l := List.filter_eq_self.mpr (List.length_filter_eq_length_iff.mp h)
theorem shrkN_fix {l : List α} (h : shrk f l = l) : ∀ n, shrkN f n l = l
  | 0 => rfl
  | n + 1 => by show shrkN f n (shrk f l) = l; rw [h]; exact shrkN_fix h n
/-- as many turns as there are elements are enough -/
theorem shrkN_more : ∀ (k : Nat) (l : List α) (n : Nat), l.length ≤ k → l.length ≤ n → shrkN f n l = shrkN f l.length l
  | 0, l, n, h, _ => by
    have : l = [] := List.length_eq_zero_iff.mp (by omega)
    subst this
    rw [shrkN_fix f rfl, shrkN_fix f rfl]
  | k + 1, l, n, h, hn => by
    by_cases e : (shrk f l).length = l.length
    · rw [shrkN_fix f (shrk_eq f e), shrkN_fix f (shrk_eq f e)]
    · have := shrk_len f l
      obtain ⟨n', rfl⟩ : ∃ n', n = n' + 1 := ⟨n - 1, by omega⟩
      obtain ⟨j, hj⟩ : ∃ j, l.length = j + 1 := ⟨l.length - 1, by omega⟩
      rw [hj]
      show shrkN f n' (shrk f l) = shrkN f j (shrk f l)
      rw [shrkN_more k (shrk f l) n' (by omega) (by omega), shrkN_more k (shrk f l) j (by omega) (by omega)]
theorem shrkN_succ (n : Nat) (l : List α) : shrkN f (n + 1) l = shrk f (shrkN f n l) := by
  induction n generalizing l with
  | zero => rfl
  | succ n ih => exact ih (shrk f l)
theorem shrk_map (g : β → α) (l : List β) : (shrk (fun x y => f (g x) (g y)) l).map g = shrk f (l.map g) := by
  unfold shrk
  rw [List.filter_map]
  congr 1
  refine List.filter_congr fun x _ => ?_
  simp [List.any_map]
  rfl
theorem shrkN_map (g : β → α) (n : Nat) (l : List β) : (shrkN (fun x y => f (g x) (g y)) n l).map g = shrkN f n (l.map g) := by
  induction n generalizing l with
  | zero => rfl
  | succ n ih =>
    show (shrkN _ n (shrk _ l)).map g = shrkN f n (shrk f (l.map g))
    rw [ih, shrk_map]
theorem shrkN_mem {n : Nat} {l : List α} {a : α} (h : a ∈ shrkN f n l) : a ∈ l := by
  induction n generalizing l with
  | zero => exact h
  | succ n ih => exact (List.mem_filter.mp (ih h)).1
theorem shrkN_len {n : Nat} {l : List α} : (shrkN f n l).length ≤ l.length := by
  induction n generalizing l with
  | zero => exact Nat.le_refl _
  | succ n ih => exact Nat.le_trans ih (shrk_len f l)
end
end Wh

/-! steps: their parts; which step leads to which; circles; shared ins -/
namespace Wh
open PySem PySem.Spec PyProof.Rows L2 Wd
variable {m : Ms} {r : List Sl} {S : Store} {ds : List D} {b : Bool} {d : D}
/-- the parts of a step -/
structure Stp where
  nm : Str
  kd : Str
  ins : List Int
  outs : List Int
def itemsD : D → List D
  | .tup ds => ds
  | .lst ds => ds
  | .ro ds => ds
  | _ => []
def strD : D → Str
  | .str z => z
  | _ => ""
def nsD (d : D) : List Int := (intsOf (itemsD d)).getD []
def stpOf (e : D) : Stp := match itemsD e with
  | [n, k, i, o] => ⟨strD n, strD ((itemsD k).headD .non), nsD i, nsD o⟩
  | _ => ⟨"", "", [], []⟩
@[simp] theorem itemsD_sq : itemsD (sq b ds) = ds := by cases b <;> rfl
@[simp] theorem nsD_sq {ns : List Int} : nsD (sq b (ns.map D.int)) = ns := by simp [nsD]
@[simp] theorem stpOf_sq {b b1 b2 b3 : Bool} {nm z : Str} {rest : List D} {ins outs : List Int} : stpOf (sq b [.str nm, sq b1 (.str z :: rest), sq b2 (ins.map D.int), sq b3 (outs.map D.int)]) = ⟨nm, z, ins, outs⟩ := by
  simp [stpOf, strD]
/-- a step of tuples or lists, not too long -/
def StR (e : D) : Prop := ∃ (b : Bool) (nm : Str) (b1 : Bool) (z : Str) (rest : List D) (b2 : Bool) (ins : List Int) (b3 : Bool) (outs : List Int), e = sq b [.str nm, sq b1 (.str z :: rest), sq b2 (ins.map D.int), sq b3 (outs.map D.int)] ∧ ins.length ≤ 28 ∧ outs.length ≤ 28
def meets (xs ys : List Int) : Bool := xs.any fun x => decide (x ∈ ys)
def feeds (s t : Stp) : Bool := meets s.outs t.ins
theorem meets_iff {xs ys : List Int} : meets xs ys = true ↔ ∃ x ∈ xs, x ∈ ys := by simp [meets]
theorem meets_comm {xs ys : List Int} : meets xs ys = meets ys xs := by
  rw [Bool.eq_iff_iff, meets_iff, meets_iff]
  constructor <;> rintro ⟨x, h1, h2⟩ <;> exact ⟨x, h2, h1⟩
theorem leads_to_ok {e e' : D} (h : StR e) (h' : StR e') : F_leads_to [e, e'] S = .ok (.bl (feeds (stpOf e) (stpOf e'))) S := by
  obtain ⟨b, nm, b1, z, rest, b2, ins, b3, outs, rfl, hi, ho⟩ := h
  obtain ⟨c, nm', c1, z', rest', c2, ins', c3, outs', rfl, hi', ho'⟩ := h'
  have e1 : ∀ v v', lcD [2] (tgN 2) tYesD (Wd.e2 (oIn false) (eVar 2) (e2V oIx 1 (eC (.int 2)))) (outs.map D.int) [] ⟨[.val v, .val (sq c [.str nm', v', sq c2 (ins'.map D.int), sq c3 (outs'.map D.int)]), .un], S⟩ = .ok (outs.map fun x => .bl (decide (x ∈ ins'))) ⟨[.val v, .val (sq c [.str nm', v', sq c2 (ins'.map D.int), sq c3 (outs'.map D.int)]), .un], S⟩ := fun v v' =>
    lcD_of (enc := D.int) _ (fun x _ => by simp) (by omega)
  simp [F_leads_to, b_leads_to, ev_run, e1, ev_any_map, feeds, meets]
theorem law_feeds_ok {e e' : D} (h : StR e) (h' : StR e') : F_law_feeds [e, e'] S = .ok (.bl (feeds (stpOf e) (stpOf e'))) S := by
  obtain ⟨b, nm, b1, z, rest, b2, ins, b3, outs, rfl, hi, ho⟩ := h
  obtain ⟨c, nm', c1, z', rest', c2, ins', c3, outs', rfl, hi', ho'⟩ := h'
  obtain ⟨l, hl⟩ : ∃ l, l = outs.filter fun x => decide (x ∈ ins') := ⟨_, rfl⟩
  have e1 : ∀ v v', lcD [2] (tgN 2) (tOf (Wd.e2 (oIn false) (eVar 2) (e2V oIx 1 (eC (.int 2))))) (eVar 2) (outs.map D.int) [] ⟨[.val v, .val (sq c [.str nm', v', sq c2 (ins'.map D.int), sq c3 (outs'.map D.int)]), .un], S⟩ = .ok (l.map D.int) ⟨[.val v, .val (sq c [.str nm', v', sq c2 (ins'.map D.int), sq c3 (outs'.map D.int)]), .un], S⟩ := fun v v' => by
    rw [hl]
    exact lcD_if (enc := D.int) _ (fun x _ => by by_cases h : x ∈ ins' <;> simp [h]) (by omega)
  have e2 : decide (0 < (l.length : Int)) = meets outs ins' := by
    rw [hl, Bool.eq_iff_iff, meets_iff]
    simp [List.length_pos_iff_exists_mem]
  rw [stpOf_sq, stpOf_sq]
  simp only [feeds]
  rw [← e2]
  simp [F_law_feeds, b_law_feeds, ev_run, e1]
/-! circles -/
def loose (s : Stp) : Bool := decide ("plain" = s.kd) || decide ("wait" = s.kd)
def circ (ss : List Stp) : Bool := !(shrkN feeds (ss.filter loose).length (ss.filter loose)).isEmpty
def fD (e e' : D) : Bool := feeds (stpOf e) (stpOf e')
def lD (e : D) : Bool := loose (stpOf e)
theorem circ_map {es : List D} : circ (es.map stpOf) = !(shrkN fD (es.filter lD).length (es.filter lD)).isEmpty := by
  unfold circ
  have e1 : (es.map stpOf).filter loose = (es.filter lD).map stpOf := by
    rw [List.filter_map]
    rfl
  have e2 := shrkN_map feeds stpOf (es.filter lD).length (es.filter lD)
  rw [e1, List.length_map, ← e2]
  cases h : shrkN (fun x y => feeds (stpOf x) (stpOf y)) (es.filter lD).length (es.filter lD) with
  | nil => simp [show fD = fun x y => feeds (stpOf x) (stpOf y) from rfl, h]
  | cons a l => simp [show fD = fun x y => feeds (stpOf x) (stpOf y) from rfl, h]
theorem kind_at {e : D} (h : StR e) : ∃ k, (∀ m, oIx e (.int 1) m = .ok k m) ∧ ∀ m, oIx k (.int 0) m = .ok (.str (stpOf e).kd) m := by
  obtain ⟨b, nm, b1, z, rest, b2, ins, b3, outs, rfl, hi, ho⟩ := h
  exact ⟨sq b1 (.str z :: rest), fun m => by simp, fun m => by simp⟩
theorem circle_left {es : List D} (hs : ∀ e ∈ es, StR e) (hl : es.length ≤ 16777216) {r0 r1 r2 r3 : Sl} : lcD [4] (tgN 4) (tOf (Wd.e2 (oIn false) (Wd.e2 oIx (e2V oIx 4 (eC (.int 1))) (eC (.int 0))) (eTup (aCons (eC (.str "plain")) (aCons (eC (.str "wait")) aNil))))) (eVar 4) es [] ⟨[r0, r1, r2, r3, .un, .un], S⟩ = .ok (es.filter lD) ⟨[r0, r1, r2, r3, .un, .un], S⟩ := by
  have := lcD_if (vs := [4]) (tg := tgN 4) (t := tOf (Wd.e2 (oIn false) (Wd.e2 oIx (e2V oIx 4 (eC (.int 1))) (eC (.int 0))) (eTup (aCons (eC (.str "plain")) (aCons (eC (.str "wait")) aNil))))) (f := eVar 4) (enc := id) (k := id) (p := lD)
    (m := ⟨[r0, r1, r2, r3, .un, .un], S⟩) es (fun e he => by
      obtain ⟨k, h1, h2⟩ := kind_at (hs e he)
      cases h : lD e with
      | true => simp only [lD, loose] at h; simp [h1, h2, h]
      | false => simp only [lD, loose] at h; simp [h1, h2, h]) hl
  simpa using this
theorem circle_turn {l : List D} (hs : ∀ e ∈ l, StR e) (hl : l.length ≤ 16777216) {r0 r2 r3 : Sl} : lcD [4] (tgN 4) (tOf (e1q oAny (nLc (itE (eVar 1)) [5] (tgN 5) tYesD (fCall F_leads_to (aCons (eVar 4) (aCons (eVar 5) aNil)))))) (eVar 4) l [] ⟨[r0, .val (.lst l), r2, r3, .un, .un], S⟩ = .ok (shrk fD l) ⟨[r0, .val (.lst l), r2, r3, .un, .un], S⟩ := by
  have := lcD_if (vs := [4]) (tg := tgN 4) (t := tOf (e1q oAny (nLc (itE (eVar 1)) [5] (tgN 5) tYesD (fCall F_leads_to (aCons (eVar 4) (aCons (eVar 5) aNil)))))) (f := eVar 4) (enc := id) (k := id) (p := fun a => l.any fun c => fD a c)
    (m := ⟨[r0, .val (.lst l), r2, r3, .un, .un], S⟩) l (fun e he => by
      have e1 : lcD [5] (tgN 5) tYesD (fCall F_leads_to (aCons (eVar 4) (aCons (eVar 5) aNil))) l [] ⟨[r0, .val (.lst l), r2, r3, .val e, .un], S⟩ = .ok (l.map fun c => .bl (fD e c)) ⟨[r0, .val (.lst l), r2, r3, .val e, .un], S⟩ := by
        have := lcD_of (vs := [5]) (tg := tgN 5) (t := tYesD) (f := fCall F_leads_to (aCons (eVar 4) (aCons (eVar 5) aNil))) (enc := id) (k := fun c => .bl (fD e c)) (m := ⟨[r0, .val (.lst l), r2, r3, .val e, .un], S⟩) l (fun c hc => by
          simp [leads_to_ok (hs e he) (hs c hc), fD]) hl
        simpa using this
      cases h : (l.any fun c => fD e c) with
      | true => simp [e1, ev_any_map, h]
      | false => simp [e1, ev_any_map, h]) hl
  simpa [shrk] using this
theorem whileN_t {c : Ms → Res Bool} {body : Ms → SR} {n : Nat} {m m1 m2 : Ms} (h : c m = .ok true m1) (hb : body m1 = .next m2) : whileN c body (n + 1) m = whileN c body n m2 := by
  conv => lhs; unfold whileN
  rw [h]
  simp only [hb]
theorem whileN_f {c : Ms → Res Bool} {body : Ms → SR} {n : Nat} {m m1 : Ms} (h : c m = .ok false m1) : whileN c body (n + 1) m = .next m1 := by
  conv => lhs; unfold whileN
  rw [h]
noncomputable def circleBody : Ms → SR :=
 (sSeq (sSet 3 (eNew (nLc (itE (eVar 1)) [4] (tgN 4) (tOf (e1q oAny (nLc (itE (eVar 1)) [5] (tgN 5) tYesD (fCall F_leads_to (aCons (eVar 4) (aCons (eVar 5) aNil)))))) (eVar 4))))
 (sSeq (sSet 2 (Wd.e2 oLt (e1 oLen (eBor 3)) (e1 oLen (eBor 1))))
 (sSet 1 (eVar 3))))
theorem circle_while {r0 : Sl} : ∀ (k : Nat) (l : List D) (r3 : Sl), l.length ≤ k → l.length ≤ 16777216 → (∀ e ∈ l, StR e) → notOwn r3 = true →
    whileN (tTru (eBor 2)) circleBody (k + 2) ⟨[r0, .val (.lst l), .val (.bl true), r3, .un, .un], S⟩ = .next ⟨[r0, .val (.lst (shrkN fD l.length l)), .val (.bl false), .val (.lst (shrkN fD l.length l)), .un, .un], S⟩ := by
  intro k
  induction k with
  | zero =>
    intro l r3 hk hl hs hr
    have : l = [] := List.length_eq_zero_iff.mp (by omega)
    subst this
    rw [whileN_t (m1 := ⟨[r0, .val (.lst []), .val (.bl true), r3, .un, .un], S⟩) (m2 := ⟨[r0, .val (.lst []), .val (.bl false), .val (.lst []), .un, .un], S⟩) (by simp) (by simp [circleBody, circle_turn hs hl, shrk])]
    rw [whileN_f (m1 := ⟨[r0, .val (.lst []), .val (.bl false), .val (.lst []), .un, .un], S⟩) (by simp)]
    rfl
  | succ k ih =>
    intro l r3 hk hl hs hr
    have hle := shrk_len fD l
    by_cases e : (shrk fD l).length = l.length
    · have e2 := shrk_eq fD e
      rw [whileN_t (m1 := ⟨[r0, .val (.lst l), .val (.bl true), r3, .un, .un], S⟩) (m2 := ⟨[r0, .val (.lst l), .val (.bl false), .val (.lst l), .un, .un], S⟩) (by simp) (by simp [circleBody, circle_turn hs hl, e2])]
      rw [whileN_f (m1 := ⟨[r0, .val (.lst l), .val (.bl false), .val (.lst l), .un, .un], S⟩) (by simp), shrkN_fix fD e2]
    · rw [whileN_t (m1 := ⟨[r0, .val (.lst l), .val (.bl true), r3, .un, .un], S⟩) (m2 := ⟨[r0, .val (.lst (shrk fD l)), .val (.bl true), .val (.lst (shrk fD l)), .un, .un], S⟩) (by simp) (by simp [circleBody, circle_turn hs hl]; omega)]
      rw [ih (shrk fD l) _ (by omega) (by omega) (fun e he => hs e (List.mem_filter.mp he).1) rfl]
      obtain ⟨j, hj⟩ : ∃ j, l.length = j + 1 := ⟨l.length - 1, by omega⟩
      have e3 : shrkN fD l.length l = shrkN fD (shrk fD l).length (shrk fD l) := by
        rw [hj]
        exact shrkN_more fD _ (shrk fD l) j (Nat.le_refl _) (by omega)
      rw [e3]
theorem has_own_circle_ok {es : List D} (hs : ∀ e ∈ es, StR e) (hl : es.length ≤ 16777216) : F_has_own_circle [sq b es] S = .ok (.bl (circ (es.map stpOf))) S := by
  have hl2 : (es.filter lD).length ≤ 16777216 := Nat.le_trans (List.length_filter_le ..) hl
  have hs2 : ∀ e ∈ es.filter lD, StR e := fun e he => hs e (List.mem_filter.mp he).1
  have e1 : sWhile (tTru (eBor 2)) circleBody ⟨[.val (sq b es), .val (.lst (es.filter lD)), .val (.bl true), .un, .un, .un], S⟩ = .next ⟨[.val (sq b es), .val (.lst (shrkN fD (es.filter lD).length (es.filter lD))), .val (.bl false), .val (.lst (shrkN fD (es.filter lD).length (es.filter lD))), .un, .un], S⟩ :=
    sWhile_eq (circle_while (es.filter lD).length (es.filter lD) .un (Nat.le_refl _) hl2 hs2 rfl) (by simp)
  unfold circleBody at e1
  rw [circ_map]
  have e2 : ∀ l : List D, decide (0 < l.length) = !l.isEmpty := fun l => by
    cases l <;> simp
  simp [F_has_own_circle, b_has_own_circle, ev_run, circle_left hs hl, e1, e2]
/-- the law's circles: as many turns as there are steps -/
theorem round_turn {l : List D} (hs : ∀ e ∈ l, StR e) (hl : l.length ≤ 16777216) {r0 r2 : Sl} : lcD [3] (tgN 3) (tOf (Wd.e2 oGt (e1 oLen (eNew (nLc (itE (eVar 1)) [4] (tgN 4) (tOf (fCall F_law_feeds (aCons (eVar 3) (aCons (eVar 4) aNil)))) (eVar 4)))) (eC (.int 0)))) (eVar 3) l [] ⟨[r0, .val (.lst l), r2, .un, .un], S⟩ = .ok (shrk fD l) ⟨[r0, .val (.lst l), r2, .un, .un], S⟩ := by
  have := lcD_if (vs := [3]) (tg := tgN 3) (t := tOf (Wd.e2 oGt (e1 oLen (eNew (nLc (itE (eVar 1)) [4] (tgN 4) (tOf (fCall F_law_feeds (aCons (eVar 3) (aCons (eVar 4) aNil)))) (eVar 4)))) (eC (.int 0)))) (f := eVar 3) (enc := id) (k := id) (p := fun a => l.any fun c => fD a c)
    (m := ⟨[r0, .val (.lst l), r2, .un, .un], S⟩) l (fun e he => by
      obtain ⟨q, hq⟩ : ∃ q, q = l.filter fun c => fD e c := ⟨_, rfl⟩
      have e1 : lcD [4] (tgN 4) (tOf (fCall F_law_feeds (aCons (eVar 3) (aCons (eVar 4) aNil)))) (eVar 4) l [] ⟨[r0, .val (.lst l), r2, .val e, .un], S⟩ = .ok q ⟨[r0, .val (.lst l), r2, .val e, .un], S⟩ := by
        have := lcD_if (vs := [4]) (tg := tgN 4) (t := tOf (fCall F_law_feeds (aCons (eVar 3) (aCons (eVar 4) aNil)))) (f := eVar 4) (enc := id) (k := id) (p := fun c => fD e c) (m := ⟨[r0, .val (.lst l), r2, .val e, .un], S⟩) l (fun c hc => by
          have := law_feeds_ok (S := S) (hs e he) (hs c hc)
          cases h : fD e c with
          | true => simp only [fD] at h; simp [this, h]
          | false => simp only [fD] at h; simp [this, h]) hl
        simpa [hq] using this
      have e2 : decide (0 < q.length) = l.any fun c => fD e c := by
        rw [hq, Bool.eq_iff_iff]
        simp [List.length_pos_iff_exists_mem]
      cases h : (l.any fun c => fD e c) with
      | true => rw [h] at e2; simp [e1, of_decide_eq_true e2]
      | false => rw [h] at e2; simp [e1, of_decide_eq_false e2]) hl
  simpa [shrk] using this
theorem law_is_round_ok {es : List D} (hs : ∀ e ∈ es, StR e) (hl : es.length ≤ 1000000) : F_law_is_round [sq b es] S = .ok (.bl (circ (es.map stpOf))) S := by
  have hl2 : (es.filter lD).length ≤ 1000000 := Nat.le_trans (List.length_filter_le ..) hl
  have hs2 : ∀ e ∈ es.filter lD, StR e := fun e he => hs e (List.mem_filter.mp he).1
  have e0 : lcD [3] (tgN 3) (tOf (Wd.e2 (oIn false) (Wd.e2 oIx (e2V oIx 3 (eC (.int 1))) (eC (.int 0))) (eTup (aCons (eC (.str "plain")) (aCons (eC (.str "wait")) aNil))))) (eVar 3) es [] ⟨[.val (sq b es), .un, .un, .un, .un], S⟩ = .ok (es.filter lD) ⟨[.val (sq b es), .un, .un, .un, .un], S⟩ := by
    have := lcD_if (vs := [3]) (tg := tgN 3) (t := tOf (Wd.e2 (oIn false) (Wd.e2 oIx (e2V oIx 3 (eC (.int 1))) (eC (.int 0))) (eTup (aCons (eC (.str "plain")) (aCons (eC (.str "wait")) aNil))))) (f := eVar 3) (enc := id) (k := id) (p := lD)
      (m := ⟨[.val (sq b es), .un, .un, .un, .un], S⟩) es (fun e he => by
        obtain ⟨k, h1, h2⟩ := kind_at (hs e he)
        cases h : lD e with
        | true => simp only [lD, loose] at h; simp [h1, h2, h]
        | false => simp only [lD, loose] at h; simp [h1, h2, h]) (by omega)
    simpa using this
  obtain ⟨m', e1, a2, em⟩ := forD_inv (tg := tgN 2) (F := lp_law_is_round_1)
    (P := fun i m => ∃ a2 : Sl, m = ⟨[.val (sq b es), .val (.lst (shrkN fD i (es.filter lD))), a2, .un, .un], S⟩)
    (rgD 0 ((es.filter lD).length : Int)) 0 ⟨[.val (sq b es), .val (.lst (es.filter lD)), .un, .un, .un], S⟩
    (fun i d m hi ⟨a2, em⟩ => by
      subst em
      rw [Nat.zero_add]
      have h1 := shrkN_len fD (n := i) (l := es.filter lD)
      have h2 := round_turn (S := S) (l := shrkN fD i (es.filter lD)) (fun e he => hs2 e (shrkN_mem fD he)) (by omega) (r0 := .val (sq b es)) (r2 := .val d)
      rw [shrkN_succ]
      refine ⟨⟨[.val (sq b es), .val (.lst (shrk fD (shrkN fD i (es.filter lD)))), .val d, .un, .un], S⟩, .inl ?_, _, rfl⟩
      simp [lp_law_is_round_1, h2]) ⟨.un, rfl⟩
  rw [rgD_length, Nat.zero_add, show (((es.filter lD).length : Int) - 0).toNat = (es.filter lD).length by omega] at em
  subst em
  rw [circ_map]
  have e2 : ∀ l : List D, decide (0 < l.length) = !l.isEmpty := fun l => by
    cases l <;> simp
  have b1 : -1000000000 ≤ ((es.filter lD).length : Int) := by omega
  have b2 : ((es.filter lD).length : Int) ≤ 1000000000 := by omega
  simp [F_law_is_round, b_law_is_round, ev_run, e0, b1, b2, e1, e2]
end Wh

/-! comprehensions and loops by simp: what is pure is reckoned as a whole -/
namespace Wh
open PySem PySem.Spec PyProof.Rows L2 Wd
section
variable {α β γ : Type} {m : Ms} {r : List Sl} {S : Store} {ds : List D} {d : D}
def pur (m : Ms) (r : Res α) : Prop := ∃ a, r = .ok a m
def okV (x : α) : Res α → α
  | .ok a _ => a
  | _ => x
@[simp] theorem pur_ok {a : α} : pur m (.ok a m) := ⟨a, rfl⟩
@[simp] theorem pur_ite {c : Prop} [Decidable c] {r1 r2 : Res α} : pur m (if c then r1 else r2) ↔ (if c then pur m r1 else pur m r2) := by
  split <;> exact Iff.rfl
@[simp] theorem okV_ok {x a : α} : okV x (.ok a m) = a := rfl
@[simp] theorem ok_ite {c : Prop} [Decidable c] {a b : α} : (if c then Res.ok a m else .ok b m) = .ok (if c then a else b) m := by
  split <;> rfl
theorem bind_ite {c : Prop} [Decidable c] {r1 r2 : Res α} {k : α → Ms → Res β} : (if c then r1 else r2).bind k = if c then r1.bind k else r2.bind k := by
  split <;> rfl
theorem sb_ite {c : Prop} [Decidable c] {r1 r2 : Res α} {k : α → Ms → SR} : (if c then r1 else r2).sb k = if c then r1.sb k else r2.sb k := by
  split <;> rfl
theorem pur_val {r : Res α} {x : α} (h : pur m r) : r = .ok (okV x r) m := by
  obtain ⟨a, rfl⟩ := h
  rfl
variable {vs : List Nat} {tg : Tg} {t : Ms → Res Bool} {f : Ms → Res D}
/-- a comprehension that changes nothing -/
@[simp] theorem lcD_auto {enc : γ → D} {xs : List γ} (h : ∀ x ∈ xs, pur m (lcS vs tg t f (enc x) m)) (hl : xs.length ≤ 16777216) :
    lcD vs tg t f (xs.map enc) [] m = .ok (xs.filterMap fun x => okV none (lcS vs tg t f (enc x) m)) m := by
  have := lcD_flt (vs := vs) (tg := tg) (t := t) (f := f) (m := m) (enc := enc) (k := fun x => okV none (lcS vs tg t f (enc x) m)) xs [] (fun x hx => pur_val (h x hx)) (by simpa using hl)
  simpa using this
theorem lcD_autoD (h : ∀ x ∈ ds, pur m (lcS vs tg t f x m)) (hl : ds.length ≤ 16777216) :
    lcD vs tg t f ds [] m = .ok (ds.filterMap fun x => okV none (lcS vs tg t f x m)) m := by
  have := lcD_auto (enc := id) (xs := ds) (m := m) h hl
  simpa using this
@[simp] theorem fm_some {k : γ → β} {xs : List γ} : (xs.filterMap fun x => some (k x)) = xs.map k := by
  induction xs with
  | nil => rfl
  | cons x xs ih => simp
@[simp] theorem fm_ite {p : γ → Prop} [DecidablePred p] {k : γ → β} {xs : List γ} : (xs.filterMap fun x => if p x then some (k x) else none) = (xs.filter fun x => decide (p x)).map k := by
  induction xs with
  | nil => rfl
  | cons x xs ih => by_cases h : p x <;> simp [h, ih]
@[simp] theorem fm_iteN {p : γ → Prop} [DecidablePred p] {k : γ → β} {xs : List γ} : (xs.filterMap fun x => if p x then none else some (k x)) = (xs.filter fun x => !decide (p x)).map k := by
  induction xs with
  | nil => rfl
  | cons x xs ih => by_cases h : p x <;> simp [h, ih]
theorem fm_mem {k k' : γ → Option β} {xs : List γ} (h : ∀ x ∈ xs, k x = k' x) : xs.filterMap k = xs.filterMap k' := by
  induction xs with
  | nil => rfl
  | cons x xs ih =>
    rw [List.filterMap_cons, List.filterMap_cons, h x (by simp), ih fun y hy => h y (by simp [hy])]
@[simp] theorem ev_any_mapA {k : α → Bool} {xs : List α} : oAny (xs.map fun a => D.bl (k a)) m = .ok (.bl (xs.any k)) m := ev_any_map
@[simp] theorem ev_all_mapA {k : α → Bool} {xs : List α} : oAll (xs.map fun a => D.bl (k a)) m = .ok (.bl (xs.all k)) m := ev_all_map
@[simp] theorem ev_lcS1A {b : Bool} : lcS1 vs f b m = if b = true then (f m).bind (lcS2 vs) else .ok none (wipeM vs m) := ev_lcS1
theorem srb_ite {c : Prop} [Decidable c] {r1 r2 : SR} {k : Ms → SR} : (if c then r1 else r2).bind k = if c then r1.bind k else r2.bind k := by
  split <;> rfl
theorem runC_ite {c : Prop} [Decidable c] {r1 r2 : SR} : runC (if c then r1 else r2) = if c then runC r1 else runC r2 := by
  split <;> rfl
theorem len0_any {p : γ → Bool} {xs : List γ} : decide (0 < (xs.filter p).length) = xs.any p := by
  rw [Bool.eq_iff_iff]
  simp [List.length_pos_iff_exists_mem]
/-! loops -/
variable {F : Ms → SR}
/-- a loop whose turns keep a form of the state -/
theorem forD_fold {A : Type} {enc : γ → D} {st : A → Ms} {step : A → γ → A} : ∀ (xs : List γ) (a : A), (∀ a x, x ∈ xs → forB F (tg (enc x) (st a)) = .next (st (step a x)) ∨ forB F (tg (enc x) (st a)) = .cnt (st (step a x))) →
    forD tg F (xs.map enc) (st a) = .next (st (xs.foldl step a))
  | [], a, _ => rfl
  | x :: xs, a, h => by
    have ih := forD_fold (enc := enc) (st := st) (step := step) xs (step a x) fun a y hy => h a y (List.mem_cons_of_mem _ hy)
    rw [List.map_cons, ev_for_cons]
    rcases h a x (List.mem_cons_self ..) with e | e <;> rw [e] <;> exact ih
/-- a loop that only looks, and may return -/
theorem forD_look {enc : γ → D} {i : Nat} {p : γ → Bool} {k : γ → D} {mr : γ → Ms} : ∀ (xs : List γ) (r : List Sl), (∀ x ∈ xs, ∀ v, F ⟨(r.set i v).set i (.val (enc x)), S⟩ = if p x = true then .ret (k x) (mr x) else .next ⟨r.set i (.val (enc x)), S⟩) → ∀ v,
    i < r.length → ∃ v', forD (tgN i) F (xs.map enc) ⟨r.set i v, S⟩ = match xs.find? p with
      | some x => .ret (k x) (mr x)
      | none => .next ⟨r.set i v', S⟩
  | [], r, _, v, _ => ⟨v, rfl⟩
  | x :: xs, r, h, v, hi => by
    have e := h x (List.mem_cons_self ..) v
    have e1 : forB F (tgN i (enc x) ⟨r.set i v, S⟩) = F ⟨(r.set i v).set i (.val (enc x)), S⟩ := by
      simp [hi]
    rw [List.map_cons, ev_for_cons, e1, e]
    cases hp : p x with
    | true => exact ⟨v, by simp [hp]⟩
    | false =>
      obtain ⟨v', e2⟩ := forD_look (p := p) (k := k) (mr := mr) xs r (fun y hy => h y (List.mem_cons_of_mem _ hy)) (.val (enc x)) hi
      exact ⟨v', by simp [hp, e2]⟩
/-- a loop that only looks, and may return: b stands for what is left behind -/
theorem forD_lk {β : Type} {enc : γ → D} {st : β → Ms} {p : γ → Bool} {k : γ → D} : ∀ (xs : List γ), (∀ x ∈ xs, ∀ b, if p x = true then ∃ m', forB F (tg (enc x) (st b)) = .ret (k x) m' ∧ m'.S = (st b).S else ∃ b', forB F (tg (enc x) (st b)) = .next (st b') ∧ (st b').S = (st b).S) → ∀ b,
    (∃ b', forD tg F (xs.map enc) (st b) = .next (st b') ∧ (st b').S = (st b).S ∧ xs.find? p = none) ∨ ∃ x m', xs.find? p = some x ∧ forD tg F (xs.map enc) (st b) = .ret (k x) m' ∧ m'.S = (st b).S
  | [], _, b => .inl ⟨b, rfl, rfl, rfl⟩
  | x :: xs, h, b => by
    have e := h x (List.mem_cons_self ..) b
    rw [List.map_cons, ev_for_cons]
    cases hp : p x with
    | true =>
      rw [hp, if_pos rfl] at e
      obtain ⟨m', e1, e2⟩ := e
      exact .inr ⟨x, m', by simp [hp], by rw [e1]; rfl, e2⟩
    | false =>
      rw [hp, if_neg (by decide)] at e
      obtain ⟨b', e1, e2⟩ := e
      rw [e1]
      rcases forD_lk (p := p) (k := k) xs (fun y hy => h y (List.mem_cons_of_mem _ hy)) b' with ⟨b2, g1, g2, g3⟩ | ⟨y, m', g1, g2, g3⟩
      · exact .inl ⟨b2, g1, by rw [g2, e2], by simp [hp, g3]⟩
      · exact .inr ⟨y, m', by simp [hp, g1], g2, by rw [g3, e2]⟩
theorem find_none {p : γ → Bool} {xs : List γ} (h : xs.find? p = none) : xs.any p = false := by
  rw [List.any_eq_false]
  exact fun x hx => by have := List.find?_eq_none.mp h x hx; simpa using this
theorem find_some {p : γ → Bool} {xs : List γ} {x : γ} (h : xs.find? p = some x) : xs.any p = true :=
  List.any_eq_true.mpr ⟨x, List.mem_of_find?_eq_some h, List.find?_some h⟩
end
end Wh

/-! steps and nets of any data: the program's test and the law's -/
namespace Wh
open PySem PySem.Spec PyProof.Rows L2 Wd
variable {m : Ms} {r : List Sl} {S : Store} {ds : List D} {b : Bool} {d : D}
def hasOne : D → Bool
  | .tup ds => inD (.int 1) ds
  | _ => false
def isStep (P : Int) : D → Bool
  | .tup [n, k, i, o] => isWord n && (isKind k && (isPlaces P i && (isPlaces P o && !hasOne i)))
  | _ => false
theorem isStep_len {P : Int} (h : ds.length ≠ 4) : isStep P (.tup ds) = false := by
  unfold isStep
  split
  · rename_i h1; cases h1; simp at h
  · rfl
theorem isPlaces_hand {k : Nat} {P : Int} {d e : D} (h : isPlaces P d = true) (hh : Hand k d e) : ∃ b ns, e = sq b (dInts ns) ∧ d = .tup (dInts ns) ∧ below ns P = true ∧ ns ≠ [] := by
  obtain ⟨ns, rfl, h1, h2⟩ := isPlaces_iff.mp h
  obtain ⟨b, ns', rfl, e2, _⟩ := isBelow_hand (isBelow_iff.mpr ⟨ns, rfl, h1⟩) hh
  have : ns = ns' := by
    have h3 : dInts ns = dInts ns' := by injection e2
    exact (List.map_inj_right (fun a b h => by injection h)).mp h3
  subst this
  exact ⟨b, ns, rfl, rfl, h1, h2⟩
theorem is_step_ok {k : Nat} {d e : D} {P : Int} (hd : Dat k d) (hh : Hand k d e) : F_is_step [e, .int P] S = .ok (.bl (isStep P d)) S := by
  refine hd.hand (P := fun d e => F_is_step [e, .int P] S = .ok (.bl (isStep P d)) S) hh ?_ (fun _ => ?_) (fun _ => ?_) (fun z hz => ?_) (fun j ds b es _ hl hs h1 h2 => ?_)
  · simp [F_is_step, b_is_step, F_is_row, b_is_row, is_sequence_non, ev_run, isStep]
  · simp [F_is_step, b_is_step, F_is_row, b_is_row, is_sequence_bl, ev_run, isStep]
  · simp [F_is_step, b_is_step, F_is_row, b_is_row, is_sequence_int, ev_run, isStep]
  · simp [F_is_step, b_is_step, F_is_row, b_is_row, is_sequence_str, ev_run, isStep]
  · have hH : Hands j ds es := ⟨h1, h2⟩
    by_cases hn : ds.length = 4
    · match ds, hn with
      | [n, k, i, o], _ =>
        obtain ⟨n', es1, rfl, hn', hH⟩ := hH.cons
        obtain ⟨k', es1, rfl, hk', hH⟩ := hH.cons
        obtain ⟨i', es1, rfl, hi', hH⟩ := hH.cons
        obtain ⟨o', es1, rfl, ho', hH⟩ := hH.cons
        have := hH.nil
        subst this
        have f1 := is_word_ok (S := S) (hs n (by simp)) hn'
        have f2 := is_kind_ok (S := S) (hs k (by simp)) hk'
        have f3 := are_places_ok (S := S) (many := P) (hs i (by simp)) hi'
        have f4 := are_places_ok (S := S) (many := P) (hs o (by simp)) ho'
        have f0 : inR 4 4 4 = true := rfl
        cases g1 : isWord n with
        | false => simp [F_is_step, b_is_step, is_row_sq, ev_run, isStep, f0, f1, g1]
        | true =>
          cases g2 : isKind k with
          | false => simp [F_is_step, b_is_step, is_row_sq, ev_run, isStep, f0, f1, f2, g1, g2]
          | true =>
            cases g3 : isPlaces P i with
            | false => simp [F_is_step, b_is_step, is_row_sq, ev_run, isStep, f0, f1, f2, f3, g1, g2, g3]
            | true =>
              cases g4 : isPlaces P o with
              | false => simp [F_is_step, b_is_step, is_row_sq, ev_run, isStep, f0, f1, f2, f3, f4, g1, g2, g3, g4]
              | true =>
                obtain ⟨bi, ins, rfl, rfl, _, _⟩ := isPlaces_hand g3 hi'
                simp [F_is_step, b_is_step, is_row_sq, ev_run, isStep, f0, f1, f2, f3, f4, g1, g2, g3, g4, hasOne]
    · have f0 : inR 4 4 (es.length : Int) = false := by
        rw [Bool.eq_false_iff, Ne, inR_iff]
        omega
      simp [F_is_step, b_is_step, is_row_sq, ev_run, isStep_len hn, f0]
end Wh

/-! steps as records; which share ins -/
namespace Wh
open PySem PySem.Spec PyProof.Rows L2 Wd
variable {m : Ms} {r : List Sl} {S : Store} {ds es : List D} {b : Bool} {d e : D}
structure St where
  nm : Str
  kn : Str
  kr : List D
  ins : List Int
  outs : List Int
def St.kind (s : St) : D := .tup (.str s.kn :: s.kr)
def St.dat (s : St) : D := .tup [.str s.nm, s.kind, .tup (dInts s.ins), .tup (dInts s.outs)]
def St.stp (s : St) : Stp := ⟨s.nm, s.kn, s.ins, s.outs⟩
structure St.Ok (P : Int) (s : St) : Prop where
  nm : wordS s.nm = true
  kind : isKind s.kind = true
  ib : below s.ins P = true
  ob : below s.outs P = true
  i0 : s.ins ≠ []
  o0 : s.outs ≠ []
  i1 : (1 : Int) ∉ s.ins
theorem isKind_iff : isKind d = true → ∃ z ds, d = .tup (.str z :: ds) := by
  intro h
  match d, h with
  | .tup (.str z :: ds), _ => exact ⟨z, ds, rfl⟩
theorem isStep_iff {P : Int} : isStep P d = true ↔ ∃ s : St, d = s.dat ∧ s.Ok P := by
  constructor
  · intro h
    match d, h with
    | .tup [n, k, i, o], h =>
      simp only [isStep, Bool.and_eq_true, Bool.not_eq_true'] at h
      obtain ⟨h1, h2, h3, h4, h5⟩ := h
      obtain ⟨z, rest, rfl⟩ := isKind_iff h2
      obtain ⟨ins, rfl, h6, h7⟩ := isPlaces_iff.mp h3
      obtain ⟨outs, rfl, h8, h9⟩ := isPlaces_iff.mp h4
      match n, h1 with
      | .str nm, h1 => exact ⟨⟨nm, z, rest, ins, outs⟩, rfl, h1, h2, h6, h8, h7, h9, by simpa [hasOne] using h5⟩
  · rintro ⟨s, rfl, h⟩
    have e1 : isPlaces P (.tup (dInts s.ins)) = true := isPlaces_iff.mpr ⟨_, rfl, h.ib, h.i0⟩
    have e2 : isPlaces P (.tup (dInts s.outs)) = true := isPlaces_iff.mpr ⟨_, rfl, h.ob, h.o0⟩
    simp [St.dat, isStep, isWord, h.nm, h.kind, e1, e2, hasOne, h.i1]
/-- e stands for the step s -/
def StH (s : St) (e : D) : Prop := ∃ b b1 rest b2 b3, e = sq b [.str s.nm, sq b1 (.str s.kn :: rest), sq b2 (dInts s.ins), sq b3 (dInts s.outs)]
theorem StH.self (s : St) : StH s s.dat := ⟨true, true, s.kr, true, true, rfl⟩
theorem StH.stp {s : St} (h : StH s e) : stpOf e = s.stp := by
  obtain ⟨b, b1, rest, b2, b3, rfl⟩ := h
  simp [St.stp]
theorem St.Ok.il {P : Int} {s : St} (h : s.Ok P) (hP : P ≤ 28) : s.ins.length ≤ 28 := below_len h.ib hP
theorem St.Ok.ol {P : Int} {s : St} (h : s.Ok P) (hP : P ≤ 28) : s.outs.length ≤ 28 := below_len h.ob hP
theorem StH.stR {s : St} {P : Int} (h : StH s e) (o : s.Ok P) (hP : P ≤ 28) : StR e := by
  obtain ⟨b, b1, rest, b2, b3, rfl⟩ := h
  exact ⟨b, s.nm, b1, s.kn, rest, b2, s.ins, b3, s.outs, rfl, o.il hP, o.ol hP⟩
theorem StH.of {s : St} {k : Nat} (h : Hand k s.dat e) : StH s e := by
  cases k with
  | zero => exact h.elim
  | succ k =>
    obtain ⟨b, es, rfl, hl, hi⟩ := h.tup
    have hH : Hands k [.str s.nm, s.kind, .tup (dInts s.ins), .tup (dInts s.outs)] es := ⟨hl, hi⟩
    obtain ⟨e1, es, rfl, h1, hH⟩ := hH.cons
    obtain ⟨e2, es, rfl, h2, hH⟩ := hH.cons
    obtain ⟨e3, es, rfl, h3, hH⟩ := hH.cons
    obtain ⟨e4, es, rfl, h4, hH⟩ := hH.cons
    have := hH.nil
    subst this
    cases k with
    | zero => exact h2.elim
    | succ k =>
      simp at h1
      subst h1
      obtain ⟨b1, es, rfl, hl, hi⟩ := h2.tup
      obtain ⟨e5, rest, rfl, h5, _⟩ := Hands.cons (ds := s.kr) (d := .str s.kn) ⟨hl, hi⟩
      obtain ⟨b2, es2, rfl, hl2, hi2⟩ := h3.tup
      obtain ⟨b3, es3, rfl, hl3, hi3⟩ := h4.tup
      simp at h5
      subst h5
      rw [hands_ints ⟨hl2, hi2⟩, hands_ints ⟨hl3, hi3⟩]
      exact ⟨b, b1, rest, b2, b3, rfl⟩
/-! ### shared ins -/
def clash (s t : Stp) : Bool := (decide (s.kd = "plain") || decide (t.kd = "plain")) && meets s.ins t.ins
theorem clash_comm {s t : Stp} : clash s t = clash t s := by
  unfold clash
  rw [meets_comm, Bool.or_comm]
def cD (e e' : D) : Bool := clash (stpOf e) (stpOf e')
def sharesD (es : List D) : Bool := (List.range es.length).any fun i => (es.take i).any fun t => cD (es.getD i .non) t
theorem share_turn {e e' : D} (h : StR e) (h' : StR e') {r0 r1 r4 : Sl} : (lp_share_ins_1 ⟨[r0, r1, .val e, .val e', .un], S⟩) = if cD e e' = true then .ret (.bl true) ⟨[r0, r1, .val e, .val e', .un], S⟩ else .next ⟨[r0, r1, .val e, .val e', .un], S⟩ := by
  obtain ⟨b, nm, b1, z, rest, b2, ins, b3, outs, rfl, hi, ho⟩ := h
  obtain ⟨c, nm', c1, z', rest', c2, ins', c3, outs', rfl, hi', ho'⟩ := h'
  have hi2 : ins.length ≤ 16777216 := by omega
  simp only [cD, stpOf_sq, clash]
  by_cases h1 : z = "plain"
  · subst h1
    cases h3 : meets ins ins' with
    | true => simp [lp_share_ins_1, hi2]; simp [← show meets ins ins' = (ins.any fun x => decide (x ∈ ins')) from rfl, h3]
    | false => simp [lp_share_ins_1, hi2]; simp [← show meets ins ins' = (ins.any fun x => decide (x ∈ ins')) from rfl, h3]
  · by_cases h2 : z' = "plain"
    · subst h2
      cases h3 : meets ins ins' with
      | true => simp [lp_share_ins_1, hi2, h1]; simp [← show meets ins ins' = (ins.any fun x => decide (x ∈ ins')) from rfl, h3]
      | false => simp [lp_share_ins_1, hi2, h1]; simp [← show meets ins ins' = (ins.any fun x => decide (x ∈ ins')) from rfl, h3]
    · simp [lp_share_ins_1, h1, h2]
end Wh

/-! nets of any data: the program's test -/
namespace Wh
open PySem PySem.Spec PyProof.Rows L2 Wd
variable {m : Ms} {r : List Sl} {S : Store} {ds es : List D} {b : Bool} {d e : D}
theorem enL_range {es : List D} : enL 0 es = (List.range es.length).map fun i : Nat => .tup [.int i, es.getD i .non] := by
  refine List.ext_getElem? fun i => ?_
  rw [enL_get, List.getElem?_map]
  by_cases h : i < es.length
  · simp [List.getElem?_range h, h, List.getD]
  · rw [List.getElem?_eq_none (by omega), List.getElem?_eq_none (by simp; omega)]
    rfl
theorem share_ins_ok (hs : ∀ e ∈ es, StR e) : F_share_ins [sq b es] S = .ok (.bl (sharesD es)) S := by
  have inner : ∀ (i : Nat), i < es.length → ∀ (r3 : Sl), (∃ r3', forD (tgN 3) lp_share_ins_1 (es.take i) ⟨[.val (sq b es), .val (.int i), .val (es.getD i .non), r3, .un], S⟩ = .next ⟨[.val (sq b es), .val (.int i), .val (es.getD i .non), r3', .un], S⟩ ∧ ((es.take i).any fun t => cD (es.getD i .non) t) = false) ∨
      ∃ m', m'.S = S ∧ forD (tgN 3) lp_share_ins_1 (es.take i) ⟨[.val (sq b es), .val (.int i), .val (es.getD i .non), r3, .un], S⟩ = .ret (.bl true) m' ∧ ((es.take i).any fun t => cD (es.getD i .non) t) = true := by
    intro i hi r3
    have hx : StR (es.getD i .non) := by
      have : es.getD i .non = es[i] := by simp [List.getD, hi]
      rw [this]
      exact hs _ (List.getElem_mem hi)
    rcases forD_lk (tg := tgN 3) (F := lp_share_ins_1) (enc := id) (st := fun r3 : Sl => ⟨[.val (sq b es), .val (.int i), .val (es.getD i .non), r3, .un], S⟩) (p := fun t => cD (es.getD i .non) t) (k := fun _ => .bl true) (es.take i)
      (fun t ht r3 => by
        have h2 := share_turn (S := S) hx (hs t (List.mem_of_mem_take ht)) (r0 := .val (sq b es)) (r1 := .val (.int i)) (r4 := .un)
        cases hc : cD (es.getD i .non) t with
        | true => rw [hc] at h2; exact ⟨⟨[.val (sq b es), .val (.int i), .val (es.getD i .non), .val t, .un], S⟩, by simpa using h2, rfl⟩
        | false => rw [hc] at h2; exact ⟨.val t, by simpa using h2, rfl⟩) r3 with ⟨r3', e1, _, e2⟩ | ⟨x, m', e2, e1, e3⟩
    · exact .inl ⟨r3', by simpa using e1, find_none e2⟩
    · exact .inr ⟨m', e3, by simpa using e1, find_some e2⟩
  have outer := forD_lk (tg := tgT [tgN 1, tgN 2]) (F := lp_share_ins_2) (enc := fun i : Nat => .tup [.int i, es.getD i .non]) (st := fun q : Sl × Sl × Sl => ⟨[.val (sq b es), q.1, q.2.1, q.2.2, .un], S⟩)
    (p := fun i => (es.take i).any fun t => cD (es.getD i .non) t) (k := fun _ => .bl true) (List.range es.length)
    (fun i hi ⟨a, c, r3⟩ => by
      rw [List.mem_range] at hi
      have e0 : forB lp_share_ins_2 (tgT [tgN 1, tgN 2] (.tup [.int i, es.getD i .non]) ⟨[.val (sq b es), a, c, r3, .un], S⟩) = forD (tgN 3) lp_share_ins_1 (es.take i) ⟨[.val (sq b es), .val (.int i), .val (es.getD i .non), r3, .un], S⟩ := by
        cases b <;> simp [lp_share_ins_2, sq, cutL_take]
      simp only [e0]
      rcases inner i hi r3 with ⟨r3', e1, e2⟩ | ⟨m', e1, e2, e3⟩
      · rw [if_neg (by rw [e2]; decide)]
        exact ⟨(.val (.int i), .val (es.getD i .non), r3'), e1, trivial⟩
      · rw [if_pos e3]
        exact ⟨m', e2, e1⟩)
    (.un, .un, .un)
  rw [← enL_range] at outer
  rcases outer with ⟨q, e1, _, e2⟩ | ⟨x, m', e2, e1, e3⟩
  · have e3 : sharesD es = false := find_none e2
    simp [F_share_ins, b_share_ins, ev_run, e1, e3]
  · have e4 : sharesD es = true := find_some e2
    simp [F_share_ins, b_share_ins, ev_run, e1, e3, e4]
/-! ### nets -/
def nameD (d : D) : Str := (stpOf d).nm
def isNet : D → Bool
  | .tup [p, .tup ss] => isWithin 2 8 p && (decide (ss.length ≤ 10) && (ss.all (isStep (iOf p)) && (decide (ss.map nameD).Nodup && (!sharesD ss && !circ (ss.map stpOf)))))
  | _ => false
theorem isNet_len (h : ds.length ≠ 2) : isNet (.tup ds) = false := by
  unfold isNet
  split
  · rename_i h1; cases h1; simp at h
  · rfl
theorem hands_steps {k : Nat} {P : Int} : ∀ {ds es : List D}, (∀ d ∈ ds, isStep P d = true) → Hands k ds es → ∃ ss : List St, ds = ss.map St.dat ∧ es.length = ss.length ∧ (∀ s ∈ ss, s.Ok P) ∧ ∀ i (h : i < ss.length) (h' : i < es.length), StH ss[i] es[i]
  | [], es, _, hH => ⟨[], rfl, by rw [hH.nil]; rfl, fun _ h => (nomatch h), fun i h => by simp at h⟩
  | d :: ds, es, h, hH => by
    obtain ⟨e, es', rfl, h1, hH⟩ := hH.cons
    obtain ⟨ss, rfl, hl, ho, hi⟩ := hands_steps (fun d hd => h d (by simp [hd])) hH
    obtain ⟨s, rfl, hs⟩ := isStep_iff.mp (h d (by simp))
    refine ⟨s :: ss, rfl, by simp [hl], fun t ht => ?_, fun i h h' => ?_⟩
    · rcases List.mem_cons.mp ht with rfl | ht
      · exact hs
      · exact ho t ht
    · cases i with
      | zero => exact StH.of h1
      | succ i => exact hi i (by simpa using h) (by simpa using h')
theorem steps_stp {ss : List St} (hl : es.length = ss.length) (hi : ∀ i (h : i < ss.length) (h' : i < es.length), StH ss[i] es[i]) : es.map stpOf = ss.map St.stp := by
  refine List.ext_getElem (by simp [hl]) fun i h h' => ?_
  simp only [List.getElem_map]
  exact (hi i (by simpa using h') (by simpa using h)).stp
theorem sharesD_stp : sharesD es = (List.range (es.map stpOf).length).any fun i => ((es.map stpOf).take i).any fun t => clash ((es.map stpOf).getD i (stpOf .non)) t := by
  unfold sharesD
  rw [List.length_map]
  congr 1
  funext i
  rw [← List.map_take, List.any_map]
  congr 1
  funext t
  simp [cD, List.getD, List.getElem?_map]
theorem hands_facts {k : Nat} {P : Int} {ds es : List D} (h : ∀ d ∈ ds, isStep P d = true) (hH : Hands k ds es) (hP : P ≤ 28) : es.map stpOf = ds.map stpOf ∧ sharesD es = sharesD ds ∧ es.map nameD = ds.map nameD ∧ ∀ e ∈ es, StR e := by
  obtain ⟨ss, rfl, hl, ho, hi⟩ := hands_steps h hH
  have q1 : es.map stpOf = ss.map St.stp := steps_stp hl hi
  have q2 : (ss.map St.dat).map stpOf = ss.map St.stp := steps_stp (by simp) fun i h h' => by simpa using StH.self ss[i]
  refine ⟨q1.trans q2.symm, by rw [sharesD_stp, sharesD_stp, q1, q2], ?_, fun e he => ?_⟩
  · have := congrArg (List.map Stp.nm) (q1.trans q2.symm)
    rw [List.map_map, List.map_map] at this
    exact this
  · obtain ⟨i, hi', rfl⟩ := List.mem_iff_getElem.mp he
    exact (hi i (by omega) hi').stR (ho _ (List.getElem_mem _)) hP
theorem names_nodup {xs : List Str} (h : xs.length < 4000) : ((cntd xs xs.length : Int) < xs.length) ↔ ¬ xs.Nodup := by
  rw [← cntd_lt]
  omega
theorem is_net_ok {k : Nat} (hd : Dat k d) (hh : Hand k d e) : F_is_net_shaped [e] S = .ok (.bl (isNet d)) S := by
  refine hd.hand (P := fun d e => F_is_net_shaped [e] S = .ok (.bl (isNet d)) S) hh ?_ (fun _ => ?_) (fun _ => ?_) (fun z hz => ?_) (fun j ds b es _ hl hs h1 h2 => ?_)
  · simp [F_is_net_shaped, b_is_net_shaped, F_is_row, b_is_row, is_sequence_non, ev_run, isNet]
  · simp [F_is_net_shaped, b_is_net_shaped, F_is_row, b_is_row, is_sequence_bl, ev_run, isNet]
  · simp [F_is_net_shaped, b_is_net_shaped, F_is_row, b_is_row, is_sequence_int, ev_run, isNet]
  · simp [F_is_net_shaped, b_is_net_shaped, F_is_row, b_is_row, is_sequence_str, ev_run, isNet]
  · have hH : Hands j ds es := ⟨h1, h2⟩
    by_cases hn : ds.length = 2
    · match ds, hn with
      | [p, ss], _ =>
        obtain ⟨p', es1, rfl, hp', hH⟩ := hH.cons
        obtain ⟨ss', es1, rfl, hss', hH⟩ := hH.cons
        have := hH.nil
        subst this
        have f0 : inR 2 2 2 = true := rfl
        have f1 := is_within_ok (S := S) (lo := 2) (hi := 8) (hs p (by simp)) hp'
        cases g1 : isWithin 2 8 p with
        | false =>
          rw [g1] at f1
          have : isNet (.tup [p, ss]) = false := by
            unfold isNet
            split
            · rename_i h3; cases h3; simp [g1]
            · rfl
          simp [F_is_net_shaped, b_is_net_shaped, is_row_sq, ev_run, f0, f1, this]
        | true =>
          rw [g1] at f1
          obtain ⟨P, rfl, l1, l2⟩ := isWithin_iff.mp g1
          simp at hp'
          subst hp'
          refine (hs ss (by simp)).hand (P := fun ss ss' => F_is_net_shaped [sq b [.int P, ss']] S = .ok (.bl (isNet (.tup [.int P, ss]))) S) hss' ?_ (fun _ => ?_) (fun _ => ?_) (fun z hz => ?_) (fun j ds b' es _ hl hs h1 h2 => ?_)
          · simp [F_is_net_shaped, b_is_net_shaped, is_row_sq, ev_run, f0, f1, isNet]
            simp [F_is_row, b_is_row, is_sequence_non, ev_run]
          · simp [F_is_net_shaped, b_is_net_shaped, is_row_sq, ev_run, f0, f1, isNet]
            simp [F_is_row, b_is_row, is_sequence_bl, ev_run]
          · simp [F_is_net_shaped, b_is_net_shaped, is_row_sq, ev_run, f0, f1, isNet]
            simp [F_is_row, b_is_row, is_sequence_int, ev_run]
          · simp [F_is_net_shaped, b_is_net_shaped, is_row_sq, ev_run, f0, f1, isNet]
            simp [F_is_row, b_is_row, is_sequence_str, ev_run]
          · have hH : Hands j ds es := ⟨h1, h2⟩
            by_cases g2 : ds.length ≤ 10
            · have f2 : inR 0 10 (es.length : Int) = true := inR_t (by omega) (by omega)
              have f3 : lcD [2] (tgN 2) tYesD (fCall F_is_step (aCons (eVar 2) (aCons (e2V oIx 0 (eC (.int 0))) aNil))) es [] ⟨[.val (sq b [.int P, sq b' es]), .val (sq b' es), .un], S⟩ = .ok (ds.map fun d => .bl (isStep P d)) ⟨[.val (sq b [.int P, sq b' es]), .val (sq b' es), .un], S⟩ := by
                have e0 : es = (List.range es.length).map fun i => es.getD i .non := by
                  refine List.ext_getElem (by simp) fun i hi hj => ?_
                  simp [hi]
                have e1 : (ds.map fun d => D.bl (isStep P d)) = (List.range es.length).map fun i => .bl (isStep P (ds.getD i .non)) := by
                  refine List.ext_getElem (by simp [h1]) fun i hi hj => ?_
                  simp at hi
                  simp [hi]
                conv => lhs; arg 5; rw [e0]
                rw [e1]
                refine lcD_of (enc := fun i => es.getD i .non) _ (fun i hi => ?_) (by simp; omega)
                rw [List.mem_range] at hi
                have hi' : i < ds.length := by omega
                have := is_step_ok (S := S) (P := P) (hs _ (List.getElem_mem hi')) (h2 i hi' hi)
                simp [hi, hi', this]
              cases g3 : ds.all (isStep P) with
              | false =>
                simp [F_is_net_shaped, b_is_net_shaped, is_row_sq, ev_run, f0, f1, f2, f3, isNet, iOf, g3, show (10 : Int) = 10 from rfl]
              | true =>
                obtain ⟨q1, q3, q4, hr⟩ := hands_facts (List.all_eq_true.mp g3) hH (by omega)
                have f4 := share_ins_ok (b := b') (S := S) hr
                have f5 := has_own_circle_ok (b := b') (S := S) hr (by omega)
                rw [q1] at f5
                rw [q3] at f4
                have f6 : lcD [2] (tgN 2) tYesD (e2V oIx 2 (eC (.int 0))) es [] ⟨[.val (sq b [.int P, sq b' es]), .val (sq b' es), .un], S⟩ = .ok ((es.map nameD).map D.str) ⟨[.val (sq b [.int P, sq b' es]), .val (sq b' es), .un], S⟩ := by
                  rw [List.map_map]
                  have := lcD_of (vs := [2]) (tg := tgN 2) (t := tYesD) (f := e2V oIx 2 (eC (.int 0))) (enc := id) (k := fun e => .str (nameD e)) (m := ⟨[.val (sq b [.int P, sq b' es]), .val (sq b' es), .un], S⟩) es (fun e he => by
                    obtain ⟨b, nm, b1, z, rest, b2, ins, b3, outs, rfl, _, _⟩ := hr e he
                    simp [nameD]) (by omega)
                  simp only [List.map_id] at this
                  exact this
                rw [q4] at f6
                have hlen : (ds.map nameD).length < 4000 := by simp; omega
                have f7 := names_nodup hlen
                have hlen2 : (es.length : Int) = (ds.map nameD).length := by simp [h1]
                generalize hNM : ds.map nameD = nms at f6 f7 hlen hlen2
                rw [hlen2] at f2
                by_cases g4 : nms.Nodup
                · have f8 : ¬ ((cntd nms nms.length : Int) < nms.length) := fun z => (f7.mp z) g4
                  simp [F_is_net_shaped, b_is_net_shaped, is_row_sq, ev_run, f0, f1, f2, f3, isNet, iOf, g1, g2, g3, hNM, f4, f5, f6, hlen, hlen2, f8, g4]
                  cases sharesD ds <;> simp [f5]
                · have f8 : ((cntd nms nms.length : Int) < nms.length) := f7.mpr g4
                  simp [F_is_net_shaped, b_is_net_shaped, is_row_sq, ev_run, f0, f1, f2, f3, isNet, iOf, g1, g2, g3, hNM, f6, hlen, hlen2, f8, g4]
            · have f2 : inR 0 10 (es.length : Int) = false := by
                rw [Bool.eq_false_iff, Ne, inR_iff]
                omega
              simp [F_is_net_shaped, b_is_net_shaped, is_row_sq, ev_run, f0, f1, f2, isNet, g2]
    · have f0 : inR 2 2 (es.length : Int) = false := by
        rw [Bool.eq_false_iff, Ne, inR_iff]
        omega
      simp [F_is_net_shaped, b_is_net_shaped, is_row_sq, ev_run, isNet_len hn, f0]
end Wh

/-! nets of any data: the law's test -/
namespace Wh
open PySem PySem.Spec PyProof.Rows L2 Wd
variable {m : Ms} {r : List Sl} {S : Store} {ds es : List D} {b : Bool} {d e : D}
theorem Dat.lay : ∀ {k : Nat} {d : D}, Dat k d → (py d).canLay0 = true ∧ (py d).depth ≤ k
  | k, .non, _ => by simp [py, PyData.canLay0, PyData.depth]
  | k, .bl _, _ => by simp [py, PyData.canLay0, PyData.depth]
  | k, .int _, _ => by simp [py, PyData.canLay0, PyData.depth]
  | k, .str _, h => ⟨by rw [py]; exact (Dat_str.mp h).2, by simp [py, PyData.depth]⟩
  | k + 1, .tup ds, ⟨_, h2⟩ => by
    have key : ∀ ds : List D, (∀ d ∈ ds, Dat k d) → PyData.canLayAll0 (pys ds) = true ∧ PyData.depthAll (pys ds) ≤ k := by
      intro ds
      induction ds with
      | nil => intro _; simp [pys, PyData.canLayAll0, PyData.depthAll]
      | cons d ds ih =>
        intro h
        have h1 := (h d (by simp)).lay
        have h2 := ih fun e he => h e (by simp [he])
        simp [pys, PyData.canLayAll0, PyData.depthAll, h1.1, h2.1]
        exact Nat.max_le.mpr ⟨h1.2, h2.2⟩
    have := key ds h2
    simp only [py, PyData.canLay0, PyData.depth]
    exact ⟨this.1, by omega⟩
  | 0, .tup _, h => h.elim
  | k, .lst _, h => (Dat_lst h).elim
  | k, .ro _, h => (Dat_ro h).elim
  | k, .loc _, h => (Dat_loc h).elim
theorem Dat.okEq {k : Nat} (h : Dat k d) (hk : k ≤ 64) : okEq d = true := by
  have := h.lay
  unfold Wd.okEq SeqAt.shaped
  simp [this.1]
  omega
theorem eqD_self {k : Nat} (h : Dat k d) : eqD d d = true := PySem.SeqAt.eqv_refl _ h.lay.1
theorem eqD_head {x y : Str} : eqD (.tup (.str x :: ds)) (.tup (.str y :: es)) = (decide (x = y) && PyData.eqvAll (pys ds) (pys es)) := by
  unfold eqD
  simp only [py, pys, PyData.eqv, PyData.eqvAll]
  by_cases h : x = y <;> simp [h]
theorem oEq_tup {neg : Bool} : oEq neg (.tup ds) (.tup es) m = if okEq (.tup ds) = true ∧ okEq (.tup es) = true then .ok (.bl (if neg then !eqD (.tup ds) (.tup es) else eqD (.tup ds) (.tup es))) m else .stuck := rfl
def nmD : D → Str
  | .tup (.str z :: _) => z
  | _ => ""
theorem isStep_nm {P : Int} (h : isStep P d = true) : nmD d = nameD d := by
  obtain ⟨s, rfl, _⟩ := isStep_iff.mp h
  rw [nameD, (StH.self s).stp]
  rfl
theorem law_rise_part {k : Nat} {P : Int} (hd : Dat k d) {r0 r1 r2 r4 r5 : Sl} {x : D} : lp_law_is_net_1 ⟨[.val (.tup [.int P, x]), r1, r2, .val d, r4, r5], S⟩ = if isPlaces P d = true then .next ⟨[.val (.tup [.int P, x]), r1, r2, .val d, r4, r5], S⟩ else .ret (.bl false) ⟨[.val (.tup [.int P, x]), r1, r2, .val d, r4, r5], S⟩ := by
  have e1 := law_rising_ok (S := S) (many := P) hd
  cases hb : isBelow P d with
  | false =>
    rw [hb] at e1
    simp [lp_law_is_net_1, e1, isPlaces, hb]
  | true =>
    obtain ⟨ns, rfl, h1⟩ := isBelow_iff.mp hb
    rw [hb] at e1
    cases ns with
    | nil => simp at e1; simp [lp_law_is_net_1, e1, isPlaces, hb, someD]
    | cons n ns => simp at e1 hb; simp [lp_law_is_net_1, e1, isPlaces, hb, someD, show ¬ ((ns.length : Int) + 1 = 0) by omega]
def TurnP (P : Int) (x : D) (xs : List Str) (S : Store) (r3 r4 r5 : Sl) (d : D) : Prop :=
    (isStep P d = true ∧ nmD d ∉ xs ∧ ∃ r3', lp_law_is_net_2 ⟨[.val (.tup [.int P, x]), .own (xs.map D.str), .val d, r3, r4, r5], S⟩ = .next ⟨[.val (.tup [.int P, x]), .own ((xs ++ [nmD d]).map D.str), .val d, r3', r4, r5], S⟩) ∨
    (¬ (isStep P d = true ∧ nmD d ∉ xs) ∧ ∃ m', m'.S = S ∧ lp_law_is_net_2 ⟨[.val (.tup [.int P, x]), .own (xs.map D.str), .val d, r3, r4, r5], S⟩ = .ret (.bl false) m')
theorem turn_bad {P : Int} {x : D} {xs : List Str} {r3 r4 r5 : Sl} (h1 : isStep P d = false) (h2 : ∃ m', m'.S = S ∧ lp_law_is_net_2 ⟨[.val (.tup [.int P, x]), .own (xs.map D.str), .val d, r3, r4, r5], S⟩ = .ret (.bl false) m') : TurnP P x xs S r3 r4 r5 d :=
  .inr ⟨fun h => by rw [h1] at h; exact (nomatch h.1), h2⟩
theorem law_net_turn {k : Nat} {P : Int} {x : D} {xs : List Str} (hd : Dat k d) (hx : xs.length < 16777216) {r3 r4 r5 : Sl} : TurnP P x xs S r3 r4 r5 d := by
  refine hd.cases (P := TurnP P x xs S r3 r4 r5) ?_ (fun y => ?_) (fun y => ?_) (fun z hz => ?_) (fun j ds _ hl hs => ?_)
  · exact turn_bad rfl ⟨⟨[.val (.tup [.int P, x]), .own (xs.map D.str), .val .non, r3, r4, r5], S⟩, rfl, by simp [lp_law_is_net_2]⟩
  · exact turn_bad rfl ⟨⟨[.val (.tup [.int P, x]), .own (xs.map D.str), .val (.bl y), r3, r4, r5], S⟩, rfl, by simp [lp_law_is_net_2]⟩
  · exact turn_bad rfl ⟨⟨[.val (.tup [.int P, x]), .own (xs.map D.str), .val (.int y), r3, r4, r5], S⟩, rfl, by simp [lp_law_is_net_2]⟩
  · exact turn_bad rfl ⟨⟨[.val (.tup [.int P, x]), .own (xs.map D.str), .val (.str z), r3, r4, r5], S⟩, rfl, by simp [lp_law_is_net_2]⟩
  · by_cases hn : ds.length = 4
    · match ds, hn with
      | [n, kd, i, o], _ =>
        have f1 := law_is_word_ok (S := S) (hs n (by simp))
        cases g1 : isWord n with
        | false =>
          rw [g1] at f1
          exact turn_bad (by simp [isStep, g1]) ⟨⟨[.val (.tup [.int P, x]), .own (xs.map D.str), .val (.tup [n, kd, i, o]), r3, r4, r5], S⟩, rfl, by simp [lp_law_is_net_2, f1]⟩
        | true =>
          rw [g1] at f1
          match n, g1 with
          | .str nm, g1 =>
            by_cases hm : nm ∈ xs
            · exact .inr ⟨fun h => h.2 hm, ⟨[.val (.tup [.int P, x]), .own (xs.map D.str), .val (.tup [.str nm, kd, i, o]), r3, r4, r5], S⟩, rfl, by simp [lp_law_is_net_2, f1, hm]⟩
            · have f2 := law_is_kind_ok (S := S) (hs kd (by simp))
              cases g2 : isKind kd with
              | false =>
                rw [g2] at f2
                exact turn_bad (by simp [isStep, g1, g2]) ⟨⟨[.val (.tup [.int P, x]), .own (xs.map D.str), .val (.tup [.str nm, kd, i, o]), r3, r4, r5], S⟩, rfl, by simp [lp_law_is_net_2, f1, hm, f2]⟩
              | true =>
                rw [g2] at f2
                have e0 : cutL [D.str nm, kd, i, o] (some 2) none = [i, o] := by rw [cutL_drop (by decide)]; rfl
                cases g3 : isPlaces P i with
                | false =>
                  have p1 := law_rise_part (S := S) (P := P) (hs i (by simp)) (x := x) (r0 := .un) (r1 := .own ((xs ++ [nm]).map D.str)) (r2 := .val (.tup [.str nm, kd, i, o])) (r4 := r4) (r5 := r5)
                  rw [g3] at p1
                  simp at p1
                  exact turn_bad (by simp [isStep, g1, g2, g3]) ⟨⟨[.val (.tup [.int P, x]), .own ((xs ++ [nm]).map D.str), .val (.tup [.str nm, kd, i, o]), .val i, r4, r5], S⟩, rfl, by simp [lp_law_is_net_2, f1, hm, f2, hx, e0, ev_for_cons, p1]⟩
                | true =>
                  have p1 := law_rise_part (S := S) (P := P) (hs i (by simp)) (x := x) (r0 := .un) (r1 := .own ((xs ++ [nm]).map D.str)) (r2 := .val (.tup [.str nm, kd, i, o])) (r4 := r4) (r5 := r5)
                  have p2 := law_rise_part (S := S) (P := P) (hs o (by simp)) (x := x) (r0 := .un) (r1 := .own ((xs ++ [nm]).map D.str)) (r2 := .val (.tup [.str nm, kd, i, o])) (r4 := r4) (r5 := r5)
                  rw [g3] at p1
                  simp at p1 p2
                  cases g4 : isPlaces P o with
                  | false =>
                    simp [g4] at p2
                    exact turn_bad (by simp [isStep, g1, g2, g3, g4]) ⟨⟨[.val (.tup [.int P, x]), .own ((xs ++ [nm]).map D.str), .val (.tup [.str nm, kd, i, o]), .val o, r4, r5], S⟩, rfl, by simp [lp_law_is_net_2, f1, hm, f2, hx, e0, ev_for_cons, p1, p2]⟩
                  | true =>
                    simp [g4] at p2
                    obtain ⟨ins, rfl, q1, q2⟩ := isPlaces_iff.mp g3
                    by_cases h1 : (1 : Int) ∈ ins
                    · exact turn_bad (by simp [isStep, g1, g2, g3, g4, hasOne, h1]) ⟨⟨[.val (.tup [.int P, x]), .own ((xs ++ [nm]).map D.str), .val (.tup [.str nm, kd, .tup (dInts ins), o]), .val o, r4, r5], S⟩, rfl, by simp [lp_law_is_net_2, f1, hm, f2, hx, e0, ev_for_cons, p1, p2, h1]⟩
                    · exact .inl ⟨by simp [isStep, g1, g2, g3, g4, hasOne, h1], hm, .val o, by simp [lp_law_is_net_2, f1, hm, f2, hx, e0, ev_for_cons, p1, p2, h1, nmD]⟩
    · exact turn_bad (isStep_len hn) ⟨⟨[.val (.tup [.int P, x]), .own (xs.map D.str), .val (.tup ds), r3, r4, r5], S⟩, rfl, by simp [lp_law_is_net_2, show ¬ (ds.length : Int) = 4 by omega]⟩
end Wh

namespace Wh
open PySem PySem.Spec PyProof.Rows L2 Wd
variable {m : Ms} {r : List Sl} {S : Store} {ds es : List D} {b : Bool} {d e : D}
def lcl (s t : St) : Bool := decide (s.kn = "plain") && (!decide (t.nm = s.nm) && meets s.ins t.ins)
theorem kind_plain {s : St} (h : isKind s.kind = true) : eqD s.kind (.tup [.str "plain"]) = decide (s.kn = "plain") := by
  unfold St.kind at h ⊢
  rw [eqD_head]
  by_cases e : s.kn = "plain"
  · have h2 : kindRest s.kn s.kr = true := h
    unfold kindRest at h2
    rw [if_pos (.inl e)] at h2
    have : s.kr = [] := by simpa using h2
    rw [this]
    simp [e, pys, PyData.eqvAll]
  · simp [e]
theorem dat_eq {s t : St} (h : t.nm = s.nm → t = s) (hd : eqD s.dat s.dat = true) : eqD t.dat s.dat = decide (t.nm = s.nm) := by
  by_cases e : t.nm = s.nm
  · have := h e
    subst this
    simp [hd]
  · unfold St.dat
    rw [eqD_head]
    simp [e]
theorem law_pair {s t : St} {k : Nat} {P : Int} (hs : Dat k s.dat) (ht : Dat k t.dat) (hk : k ≤ 60) (os : s.Ok P) (ot : t.Ok P) (hP : P ≤ 28) (h : t.nm = s.nm → t = s) {r0 r1 r3 : Sl} :
    lp_law_is_net_3 ⟨[r0, r1, .val s.dat, r3, .val t.dat, .un], S⟩ = if lcl s t = true then .ret (.bl false) ⟨[r0, r1, .val s.dat, r3, .val t.dat, .un], S⟩ else .next ⟨[r0, r1, .val s.dat, r3, .val t.dat, .un], S⟩ := by
  have e1 := kind_plain os.kind
  have e2 : okEq s.kind = true := by
    match k, hs with
    | k + 1, hs => exact Dat.okEq (hs.2 s.kind (by simp)) (by omega)
  have e3 : okEq (.tup [.str "plain"]) = true := by decide +kernel
  have e4 := dat_eq h (eqD_self hs)
  have e5 : okEq s.dat = true := hs.okEq (by omega)
  have e6 : okEq t.dat = true := ht.okEq (by omega)
  have e7 := os.il hP
  have e8 : ∀ m, oEq false s.kind (.tup [.str "plain"]) m = .ok (.bl (decide (s.kn = "plain"))) m := fun m => by
    rw [← e1]
    unfold St.kind at e2 ⊢
    rw [oEq_tup, if_pos ⟨e2, e3⟩]
    rfl
  have e9 : ∀ m, oEq true t.dat s.dat m = .ok (.bl (!decide (t.nm = s.nm))) m := fun m => by
    rw [← e4]
    unfold St.dat at e5 e6 ⊢
    rw [oEq_tup, if_pos ⟨e6, e5⟩]
    rfl
  have i1 : ∀ m, oIx s.dat (.int 1) m = .ok s.kind m := fun m => by simp [St.dat]
  have i2 : ∀ m, oIx s.dat (.int 2) m = .ok (.tup (dInts s.ins)) m := fun m => by simp [St.dat]
  have i3 : ∀ m, oIx t.dat (.int 2) m = .ok (.tup (dInts t.ins)) m := fun m => by simp [St.dat]
  have e10 : s.ins.length ≤ 16777216 := by omega
  unfold lcl
  by_cases q1 : s.kn = "plain"
  · by_cases q2 : t.nm = s.nm
    · simp [lp_law_is_net_3, e8, e9, i1, i2, i3, q1, q2]
    · cases q3 : meets s.ins t.ins with
      | true =>
        have q4 : 0 < (s.ins.filter fun x => decide (x ∈ t.ins)).length := by
          obtain ⟨x, h1, h2⟩ := meets_iff.mp q3
          exact List.length_pos_iff_exists_mem.mpr ⟨x, by simp [h1, h2]⟩
        generalize hq : s.ins.filter (fun x => decide (x ∈ t.ins)) = q at q4
        simp [lp_law_is_net_3, e8, e9, i1, i2, i3, q1, q2, e10, hq, q4]
      | false =>
        have q4 : (s.ins.filter fun x => decide (x ∈ t.ins)) = [] := by
          rw [List.filter_eq_nil_iff]
          intro x h1 h2
          have : meets s.ins t.ins = true := meets_iff.mpr ⟨x, h1, by simpa using h2⟩
          rw [q3] at this
          cases this
        simp [lp_law_is_net_3, e8, e9, i1, i2, i3, q1, q2, e10, q4]
  · simp [lp_law_is_net_3, e8, i1, q1]
def law2 (ss : List St) : Bool := ss.any fun s => ss.any fun t => lcl s t
theorem law2_shares {ss : List St} (h : (ss.map St.nm).Nodup) : sharesD (ss.map St.dat) = law2 ss := by
  rw [sharesD_stp]
  have q2 : (ss.map St.dat).map stpOf = ss.map St.stp := steps_stp (by simp) fun i h h' => by simpa using StH.self ss[i]
  rw [q2]
  have nd : ∀ i j (hi : i < ss.length) (hj : j < ss.length), ss[i].nm = ss[j].nm → i = j := fun i j hi hj e => by
    have := (List.getElem_inj (xs := ss.map St.nm) (h₀ := by simpa using hi) (h₁ := by simpa using hj) h).mp (by simpa using e)
    exact this
  rw [Bool.eq_iff_iff]
  unfold law2
  simp only [List.any_eq_true, List.mem_range, List.length_map]
  constructor
  · rintro ⟨i, hi, t, ht, hc⟩
    rw [← List.map_take, List.mem_map] at ht
    obtain ⟨u, hu, rfl⟩ := ht
    obtain ⟨j, hj, rfl⟩ := List.mem_iff_getElem.mp hu
    simp at hj
    have e : ((ss.map St.stp).getD i (stpOf .non)) = ss[i].stp := by simp [List.getD, hi]
    rw [e, List.getElem_take] at hc
    unfold clash at hc
    rw [Bool.and_eq_true, Bool.or_eq_true] at hc
    obtain ⟨h1, h2⟩ := hc
    have hne : ¬ ss[j].nm = ss[i].nm := fun z => by have := nd _ _ (by omega) hi z; omega
    rcases h1 with h1 | h1
    · exact ⟨ss[i], List.getElem_mem _, ss[j], List.getElem_mem _, by simp [lcl]; exact ⟨of_decide_eq_true h1, hne, by simpa [St.stp] using h2⟩⟩
    · refine ⟨ss[j], List.getElem_mem _, ss[i], List.getElem_mem _, ?_⟩
      rw [meets_comm] at h2
      simp [lcl]
      exact ⟨of_decide_eq_true h1, fun z => hne z.symm, by simpa [St.stp] using h2⟩
  · rintro ⟨s, hs, t, ht, hc⟩
    obtain ⟨i, hi, rfl⟩ := List.mem_iff_getElem.mp hs
    obtain ⟨j, hj, rfl⟩ := List.mem_iff_getElem.mp ht
    simp [lcl] at hc
    obtain ⟨h1, h2, h3⟩ := hc
    rcases Nat.lt_trichotomy i j with hlt | heq | hgt
    · refine ⟨j, hj, ss[i].stp, ?_, ?_⟩
      · rw [← List.map_take]
        exact List.mem_map.mpr ⟨ss[i], List.mem_iff_getElem.mpr ⟨i, by simp; omega, by simp⟩, rfl⟩
      · have e : ((ss.map St.stp).getD j (stpOf .non)) = ss[j].stp := by simp [List.getD, hj]
        rw [e]
        rw [meets_comm] at h3
        simp [clash, St.stp, h1, h3]
    · subst heq
      exact absurd rfl h2
    · refine ⟨i, hi, ss[j].stp, ?_, ?_⟩
      · rw [← List.map_take]
        exact List.mem_map.mpr ⟨ss[j], List.mem_iff_getElem.mpr ⟨j, by simp; omega, by simp⟩, rfl⟩
      · have e : ((ss.map St.stp).getD i (stpOf .non)) = ss[i].stp := by simp [List.getD, hi]
        rw [e]
        simp [clash, St.stp, h1, h3]
theorem nameD_dat {s : St} : nameD s.dat = s.nm := by
  rw [nameD, (StH.self s).stp]
  rfl
theorem law_loop1 {k : Nat} {P : Int} {x : D} (hs : ∀ d ∈ ds, Dat k d) (hl : ds.length ≤ 10) {r2 r3 r4 r5 : Sl} :
    ((ds.all (isStep P) = true ∧ (ds.map nmD).Nodup) ∧ ∃ r2 r3, forD (tgN 2) lp_law_is_net_2 ds ⟨[.val (.tup [.int P, x]), .own [], .un, .un, .un, .un], S⟩ = .next ⟨[.val (.tup [.int P, x]), .own ((ds.map nmD).map D.str), r2, r3, .un, .un], S⟩) ∨
    (¬ (ds.all (isStep P) = true ∧ (ds.map nmD).Nodup) ∧ ∃ m', m'.S = S ∧ forD (tgN 2) lp_law_is_net_2 ds ⟨[.val (.tup [.int P, x]), .own [], .un, .un, .un, .un], S⟩ = .ret (.bl false) m') := by
  have tk : ∀ i (h : i < ds.length), ds.take (i + 1) = ds.take i ++ [ds[i]] := fun i h => by simp
  rcases forD_ret (tg := tgN 2) (F := lp_law_is_net_2)
    (P := fun i m => (∃ r2 r3, m = ⟨[.val (.tup [.int P, x]), .own (((ds.take i).map nmD).map D.str), r2, r3, .un, .un], S⟩) ∧ (ds.take i).all (isStep P) = true ∧ ((ds.take i).map nmD).Nodup)
    (Q := fun y m => y = .bl false ∧ m.S = S ∧ ¬ (ds.all (isStep P) = true ∧ (ds.map nmD).Nodup)) ds 0 ⟨[.val (.tup [.int P, x]), .own [], .un, .un, .un, .un], S⟩
    (fun i d m hi ⟨⟨r2, r3, em⟩, h1, h2⟩ => by
      subst em
      rw [Nat.zero_add] at h1 h2 ⊢
      obtain ⟨hil, rfl⟩ := List.getElem?_eq_some_iff.mp hi
      have ht := law_net_turn (S := S) (P := P) (x := x) (xs := (ds.take i).map nmD) (hs ds[i] (List.getElem_mem hil)) (by simp; omega) (r3 := r3) (r4 := .un) (r5 := .un)
      rcases ht with ⟨q1, q2, r3', q3⟩ | ⟨q1, m', q2, q3⟩
      · refine .inl ⟨_, .inl (by simp only [ev_tgN, putV, ev_forB]; exact q3), ⟨.val ds[i], r3', ?_⟩, ?_, ?_⟩
        · simp only [tk i hil, List.map_append, List.map_cons, List.map_nil]
        · rw [tk i hil, List.all_append, h1]; simp [q1]
        · rw [tk i hil, List.map_append, List.nodup_append]
          refine ⟨h2, by simp, fun a ha b hb => ?_⟩
          simp at hb
          rintro rfl
          exact q2 (hb ▸ ha)
      · refine .inr ⟨.bl false, m', by simp only [ev_tgN, putV, ev_forB]; exact q3, rfl, q2, fun ⟨z1, z2⟩ => q1 ⟨?_, ?_⟩⟩
        · exact List.all_eq_true.mp z1 _ (List.getElem_mem hil)
        · have z3 : ((ds.take (i + 1)).map nmD).Nodup := by
            rw [List.map_take]
            exact z2.sublist (List.take_sublist _ _)
          rw [tk i hil, List.map_append, List.nodup_append] at z3
          exact fun z => z3.2.2 _ z _ (by simp) rfl)
    ⟨⟨.un, .un, rfl⟩, rfl, by simp⟩ with ⟨m', e1, ⟨r2, r3, em⟩, h1, h2⟩ | ⟨y, m', e1, rfl, h1, h2⟩
  · rw [Nat.zero_add, List.take_length] at em h1 h2
    subst em
    exact .inl ⟨⟨h1, h2⟩, r2, r3, e1⟩
  · exact .inr ⟨h2, m', h1, e1⟩
theorem law_loop2 {k : Nat} {P : Int} {ss : List St} (hs : ∀ s ∈ ss, Dat k s.dat) (hk : k ≤ 60) (ho : ∀ s ∈ ss, s.Ok P) (hP : P ≤ 28) (hn : (ss.map St.nm).Nodup) {r1 r2 r3 : Sl} :
    (∃ r2' r4', forD (tgN 2) lp_law_is_net_4 (ss.map St.dat) ⟨[.val (.tup [.int P, .tup (ss.map St.dat)]), r1, r2, r3, .un, .un], S⟩ = .next ⟨[.val (.tup [.int P, .tup (ss.map St.dat)]), r1, r2', r3, r4', .un], S⟩ ∧ law2 ss = false) ∨
    (law2 ss = true ∧ ∃ m', m'.S = S ∧ forD (tgN 2) lp_law_is_net_4 (ss.map St.dat) ⟨[.val (.tup [.int P, .tup (ss.map St.dat)]), r1, r2, r3, .un, .un], S⟩ = .ret (.bl false) m') := by
  have nd : ∀ s ∈ ss, ∀ t ∈ ss, t.nm = s.nm → t = s := fun s hs t ht e => by
    obtain ⟨i, hi, rfl⟩ := List.mem_iff_getElem.mp hs
    obtain ⟨j, hj, rfl⟩ := List.mem_iff_getElem.mp ht
    have := (List.getElem_inj (xs := ss.map St.nm) (h₀ := by simpa using hj) (h₁ := by simpa using hi) hn).mp (by simpa using e)
    subst this
    rfl
  have inner : ∀ s ∈ ss, ∀ r4, (∃ r4', forD (tgN 4) lp_law_is_net_3 (ss.map St.dat) ⟨[.val (.tup [.int P, .tup (ss.map St.dat)]), r1, .val s.dat, r3, r4, .un], S⟩ = .next ⟨[.val (.tup [.int P, .tup (ss.map St.dat)]), r1, .val s.dat, r3, r4', .un], S⟩ ∧ (ss.any fun t => lcl s t) = false) ∨
      ((ss.any fun t => lcl s t) = true ∧ ∃ m', m'.S = S ∧ forD (tgN 4) lp_law_is_net_3 (ss.map St.dat) ⟨[.val (.tup [.int P, .tup (ss.map St.dat)]), r1, .val s.dat, r3, r4, .un], S⟩ = .ret (.bl false) m') := fun s h1 r4 => by
    rcases forD_lk (tg := tgN 4) (F := lp_law_is_net_3) (enc := St.dat) (st := fun r4 : Sl => ⟨[.val (.tup [.int P, .tup (ss.map St.dat)]), r1, .val s.dat, r3, r4, .un], S⟩) (p := fun t => lcl s t) (k := fun _ => .bl false) ss
      (fun t ht r4 => by
        have h2 := law_pair (S := S) (hs s h1) (hs t ht) hk (ho s h1) (ho t ht) hP (nd s h1 t ht) (r0 := .val (.tup [.int P, .tup (ss.map St.dat)])) (r1 := r1) (r3 := r3)
        cases hc : lcl s t with
        | true => rw [hc] at h2; exact ⟨⟨[.val (.tup [.int P, .tup (ss.map St.dat)]), r1, .val s.dat, r3, .val t.dat, .un], S⟩, by simpa using h2, rfl⟩
        | false => rw [hc] at h2; exact ⟨.val t.dat, by simpa using h2, rfl⟩) r4 with ⟨r4', e1, _, e2⟩ | ⟨x, m', e2, e1, e3⟩
    · exact .inl ⟨r4', e1, find_none e2⟩
    · exact .inr ⟨find_some e2, m', e3, e1⟩
  rcases forD_lk (tg := tgN 2) (F := lp_law_is_net_4) (enc := St.dat) (st := fun q : Sl × Sl => ⟨[.val (.tup [.int P, .tup (ss.map St.dat)]), r1, q.1, r3, q.2, .un], S⟩) (p := fun s => ss.any fun t => lcl s t) (k := fun _ => .bl false) ss
    (fun s h1 ⟨q1, q2⟩ => by
      have e0 : forB lp_law_is_net_4 (tgN 2 s.dat ⟨[.val (.tup [.int P, .tup (ss.map St.dat)]), r1, q1, r3, q2, .un], S⟩) = forD (tgN 4) lp_law_is_net_3 (ss.map St.dat) ⟨[.val (.tup [.int P, .tup (ss.map St.dat)]), r1, .val s.dat, r3, q2, .un], S⟩ := by
        simp [lp_law_is_net_4]
      simp only [e0]
      rcases inner s h1 q2 with ⟨r4', e1, e2⟩ | ⟨e1, m', e2, e3⟩
      · rw [if_neg (by rw [e2]; decide)]
        exact ⟨(.val s.dat, r4'), e1, trivial⟩
      · rw [if_pos e1]
        exact ⟨m', e3, e2⟩)
    (r2, .un) with ⟨q, e1, _, e2⟩ | ⟨x, m', e2, e1, e3⟩
  · exact .inl ⟨q.1, q.2, e1, find_none e2⟩
  · exact .inr ⟨find_some e2, m', e3, e1⟩
theorem steps_of {P : Int} : ∀ {ds : List D}, ds.all (isStep P) = true → ∃ ss : List St, ds = ss.map St.dat ∧ ∀ s ∈ ss, s.Ok P
  | [], _ => ⟨[], rfl, fun _ h => nomatch h⟩
  | d :: ds, h => by
    rw [List.all_cons, Bool.and_eq_true] at h
    obtain ⟨ss, rfl, ho⟩ := steps_of h.2
    obtain ⟨s, rfl, hs⟩ := isStep_iff.mp h.1
    exact ⟨s :: ss, rfl, fun t ht => by
      rcases List.mem_cons.mp ht with rfl | ht
      · exact hs
      · exact ho t ht⟩
theorem law_is_net_ok {k : Nat} (hd : Dat k d) (hk : k ≤ 60) : F_law_is_net [d] S = .ok (.bl (isNet d)) S := by
  refine hd.cases (P := fun d => F_law_is_net [d] S = .ok (.bl (isNet d)) S) ?_ (fun _ => ?_) (fun _ => ?_) (fun z hz => ?_) (fun j ds ej hl hs => ?_)
  · simp [F_law_is_net, b_law_is_net, ev_run, isNet]
  · simp [F_law_is_net, b_law_is_net, ev_run, isNet]
  · simp [F_law_is_net, b_law_is_net, ev_run, isNet]
  · simp [F_law_is_net, b_law_is_net, ev_run, isNet]
  · by_cases hn : ds.length = 2
    · match ds, hn with
      | [p, x], _ =>
        have f1 := law_between_ok (S := S) (lo := 2) (hi := 8) (hs p (by simp))
        cases g1 : isWithin 2 8 p with
        | false =>
          rw [g1] at f1
          have : isNet (.tup [p, x]) = false := by
            unfold isNet
            split
            · rename_i h3; cases h3; simp [g1]
            · rfl
          simp [F_law_is_net, b_law_is_net, ev_run, f1, this]
        | true =>
          rw [g1] at f1
          obtain ⟨P, rfl, l1, l2⟩ := isWithin_iff.mp g1
          refine (hs x (by simp)).cases (P := fun x => F_law_is_net [.tup [.int P, x]] S = .ok (.bl (isNet (.tup [.int P, x]))) S) ?_ (fun _ => ?_) (fun _ => ?_) (fun z hz => ?_) (fun j ds ej2 hl hs => ?_)
          · simp [F_law_is_net, b_law_is_net, ev_run, f1, isNet]
          · simp [F_law_is_net, b_law_is_net, ev_run, f1, isNet]
          · simp [F_law_is_net, b_law_is_net, ev_run, f1, isNet]
          · simp [F_law_is_net, b_law_is_net, ev_run, f1, isNet]
          · by_cases g2 : ds.length ≤ 10
            · rcases law_loop1 (S := S) (P := P) (x := .tup ds) hs g2 (r2 := .un) (r3 := .un) (r4 := .un) (r5 := .un) with ⟨⟨h1, h2⟩, r2, r3, e1⟩ | ⟨h1, m', e2, e1⟩
              · obtain ⟨ss, rfl, ho⟩ := steps_of h1
                have hnm : (ss.map St.nm).Nodup := by
                  have : (ss.map St.dat).map nmD = ss.map St.nm := by rw [List.map_map]; rfl
                  rwa [this] at h2
                have hnm2 : ((ss.map St.dat).map nameD).Nodup := by
                  have : (ss.map St.dat).map nameD = ss.map St.nm := by
                    rw [List.map_map]
                    exact List.map_congr_left fun s _ => nameD_dat
                  rwa [this]
                have hr : ∀ e ∈ ss.map St.dat, StR e := fun e he => by
                  obtain ⟨s, hs, rfl⟩ := List.mem_map.mp he
                  exact (StH.self s).stR (ho s hs) (by omega)
                have f5 := law_is_round_ok (S := S) (b := true) hr (by omega)
                have q3 := law2_shares hnm
                rw [sq_tup] at f5
                have g2' : ¬ (10 : Int) < (ss.map St.dat).length := by omega
                rcases law_loop2 (S := S) (fun s h => hs _ (List.mem_map.mpr ⟨s, h, rfl⟩)) (by omega) ho (by omega) hnm (r1 := .own (((ss.map St.dat).map nmD).map D.str)) (r2 := r2) (r3 := r3) with ⟨r2', r4', e3, e4⟩ | ⟨e4, m', e5, e3⟩
                · rw [← q3] at e4
                  generalize ss.map St.dat = ds at *
                  generalize ds.map nmD = nms at *
                  simp [F_law_is_net, b_law_is_net, ev_run, f1, isNet, g1, g2, g2', e1, e3, f5, iOf, h1, hnm2, e4]
                · rw [← q3] at e4
                  generalize ss.map St.dat = ds at *
                  generalize ds.map nmD = nms at *
                  simp [F_law_is_net, b_law_is_net, ev_run, f1, isNet, g1, g2, g2', e1, e3, e5, iOf, h1, hnm2, e4]
              · have g2' : ¬ (10 : Int) < ds.length := by omega
                have : isNet (.tup [.int P, .tup ds]) = false := by
                  simp only [isNet, iOf]
                  cases h3 : ds.all (isStep P) with
                  | false => simp
                  | true =>
                    have : ds.map nameD = ds.map nmD := List.map_congr_left fun d hd => (isStep_nm (List.all_eq_true.mp h3 d hd)).symm
                    have h4 : ¬ (ds.map nameD).Nodup := fun z => h1 ⟨h3, by rw [← this]; exact z⟩
                    simp [h4]
                simp [F_law_is_net, b_law_is_net, ev_run, f1, this, g2', e1, e2]
            · have g2' : (10 : Int) < ds.length := by omega
              simp [F_law_is_net, b_law_is_net, ev_run, f1, isNet, g2, g2']
    · simp [F_law_is_net, b_law_is_net, ev_run, isNet_len hn, show ¬ (ds.length : Int) = 2 by omega]
end Wh

/-! the makers of the laws about nets: draws, kinds -/
namespace Wh
open PySem PySem.Spec PyProof.Rows L2 Wd
variable {m : Ms} {r : List Sl} {S T : Store} {ds es : List D} {b : Bool} {d e : D}
/-- the drawn row and the spot in it -/
def rowD (ns : List Int) : D := .lst (dInts ns)
def spot (n : Nat) : SO := .lst [.int n]
theorem take_s {ns : List Int} (h0 : ns ≠ []) {n : Nat} {lim : Int} (hl : 0 < lim) : F_law_take [rowD ns, .loc 0, .int lim] (spot n :: S) = .ok (.int (dr ns n lim)) (spot (n + 1) :: S) := by
  have := take_eq (ns := ns) (k := n) (lim := lim) (S := S) h0 (by omega) hl
  rw [show (n : Int) + 1 = ((n + 1 : Nat) : Int) by omega] at this
  exact this
theorem atI_any {xs : List D} {i : Int} (h0 : 0 ≤ i) (h1 : i < xs.length) : ∃ x ∈ xs, atI xs i = some x := ⟨_, List.getElem_mem _, atI_nat h0 h1⟩
theorem pick_s {ns : List Int} (h0 : ns ≠ []) {n : Nat} {ds : List D} (hd : ds ≠ []) : ∃ x ∈ ds, F_law_pick [rowD ns, .loc 0, .lst ds] (spot n :: T) = .ok x (spot (n + 1) :: T) := by
  have hl : (0 : Int) < ds.length := by have := List.length_pos_iff.mpr hd; omega
  obtain ⟨x, hx, ex⟩ := atI_any (dr_nonneg (ns := ns) (k := n) hl) (dr_lt (ns := ns) (k := n) hl)
  exact ⟨x, hx, by simp [F_law_pick, b_law_pick, ev_run, take_s h0 hl, ex]⟩
theorem calendar_s {ns : List Int} (h0 : ns ≠ []) {n : Nat} : ∃ (k : Option (Int × List Int)) (n' : Nat), KCal k ∧ F_law_calendar [rowD ns, .loc 0] (spot n :: T) = .ok (kD k) (spot n' :: T) := by
  obtain ⟨k, n', hk, hn, e⟩ := calendar_ok (T := T) h0 (n := n) (by omega)
  refine ⟨k, n'.toNat, hk, ?_⟩
  have h : spot n'.toNat = .lst [.int n'] := by unfold spot; rw [show ((n'.toNat : Nat) : Int) = n' by omega]
  rw [h]
  exact e
theorem handed_s {ns : List Int} (h0 : ns ≠ []) {d : D} {n : Nat} (h : Tups 9 d) : ∃ e n', Hand 9 d e ∧ F_law_handed [rowD ns, .loc 0, d] (spot n :: T) = .ok e (spot n' :: T) := by
  obtain ⟨e, n', hn, hh, ee⟩ := handed_ok (T := T) h0 h (n := n) (by omega)
  refine ⟨e, n'.toNat, hh, ?_⟩
  have h : spot n'.toNat = .lst [.int n'] := by unfold spot; rw [show ((n'.toNat : Nat) : Int) = n' by omega]
  rw [h]
  exact ee
theorem shuffled_s {ns : List Int} (h0 : ns ≠ []) {many n : Nat} (hm : many ≤ 1000000) : ∃ (ps : List Int) (n' : Nat), ps.Perm (upto many) ∧ F_law_shuffled [rowD ns, .loc 0, .int many] (spot n :: T) = .ok (.lst (dInts ps)) (spot n' :: T) := by
  obtain ⟨ps, n', hn, hp, e⟩ := shuffled_ok (T := T) h0 (many := many) (n := n) (by omega) (by omega) (by omega)
  refine ⟨ps, n'.toNat, by simpa using hp, ?_⟩
  have h : spot n'.toNat = .lst [.int n'] := by unfold spot; rw [show ((n'.toNat : Nat) : Int) = n' by omega]
  rw [h]
  exact e
/-! kinds -/
@[simp] theorem sne_plain_choice : (("plain" : Str) = "choice") = False := eq_false (by decide)
@[simp] theorem sne_plain_signal : (("plain" : Str) = "signal") = False := eq_false (by decide)
@[simp] theorem sne_plain_wait : (("plain" : Str) = "wait") = False := eq_false (by decide)
@[simp] theorem sne_plain_task : (("plain" : Str) = "task") = False := eq_false (by decide)
@[simp] theorem sne_choice_plain : (("choice" : Str) = "plain") = False := eq_false (by decide)
@[simp] theorem sne_choice_signal : (("choice" : Str) = "signal") = False := eq_false (by decide)
@[simp] theorem sne_choice_wait : (("choice" : Str) = "wait") = False := eq_false (by decide)
@[simp] theorem sne_choice_task : (("choice" : Str) = "task") = False := eq_false (by decide)
@[simp] theorem sne_signal_plain : (("signal" : Str) = "plain") = False := eq_false (by decide)
@[simp] theorem sne_signal_choice : (("signal" : Str) = "choice") = False := eq_false (by decide)
@[simp] theorem sne_signal_wait : (("signal" : Str) = "wait") = False := eq_false (by decide)
@[simp] theorem sne_signal_task : (("signal" : Str) = "task") = False := eq_false (by decide)
@[simp] theorem sne_wait_plain : (("wait" : Str) = "plain") = False := eq_false (by decide)
@[simp] theorem sne_wait_choice : (("wait" : Str) = "choice") = False := eq_false (by decide)
@[simp] theorem sne_wait_signal : (("wait" : Str) = "signal") = False := eq_false (by decide)
@[simp] theorem sne_wait_task : (("wait" : Str) = "task") = False := eq_false (by decide)
@[simp] theorem sne_task_plain : (("task" : Str) = "plain") = False := eq_false (by decide)
@[simp] theorem sne_task_choice : (("task" : Str) = "choice") = False := eq_false (by decide)
@[simp] theorem sne_task_signal : (("task" : Str) = "signal") = False := eq_false (by decide)
@[simp] theorem sne_task_wait : (("task" : Str) = "wait") = False := eq_false (by decide)
theorem kindRest_signal : kindRest "signal" ds = kSignal ds := by simp [kindRest]
theorem kindRest_wait : kindRest "wait" ds = kWait ds := by simp [kindRest]
theorem kindRest_task : kindRest "task" ds = kTask ds := by simp [kindRest]
theorem isCal_k {k : Option (Int × List Int)} (h : KCal k) : isCal (kD k) = true := by
  match k, h with
  | none, _ => rfl
  | some (L, fs), h =>
    have h : Cal L fs := h
    have h1 : isWithin 1 28 (.int L) = true := isWithin_iff.mpr ⟨L, rfl, h.lo, h.hi⟩
    have h2 : isPlaces L (.tup (dInts fs)) = true := isPlaces_iff.mpr ⟨fs, rfl, h.be, h.ne⟩
    show (isWithin 1 28 (.int L) && isPlaces (iOf (.int L)) (.tup (dInts fs))) = true
    rw [h1]
    exact h2
theorem Dat_k {k : Option (Int × List Int)} (h : KCal k) {j : Nat} : Dat (j + 2) (kD k) := by
  match k, h with
  | none, _ => exact Dat_non
  | some (L, fs), h =>
    have h : Cal L fs := h
    have hl := below_len h.be h.hi
    refine ⟨by simp, fun d hd => ?_⟩
    simp at hd
    rcases hd with rfl | rfl
    · simp
    · exact ⟨by simp; omega, fun d hd => by simp at hd; obtain ⟨a, _, rfl⟩ := hd; simp⟩
/-- a drawn kind, never plain -/
structure Kd (kn : Str) (kr : List D) : Prop where
  ok : isKind (.tup (.str kn :: kr)) = true
  np : kn ≠ "plain"
  dat : ∀ j, Dat (j + 3) (.tup (.str kn :: kr))
theorem wS {z : Str} (h : z = "go" ∨ z = "stop" ∨ z = "pay" ∨ z = "bin" ∨ z = "back" ∨ z = "pens" ∨ z = "ink") : wordS z = true ∧ z.length ≤ 16777216 ∧ PyData.canLay0 (.str z) = true := by
  rcases h with rfl | rfl | rfl | rfl | rfl | rfl | rfl <;> decide +kernel
theorem kind_s {ns : List Int} (h0 : ns ≠ []) {n : Nat} : ∃ kn kr n', Kd kn kr ∧ F_law_kind [rowD ns, .loc 0, .bl false] (spot n :: T) = .ok (.tup (.str kn :: kr)) (spot n' :: T) := by
  have ts : ∀ (lim : Int) (k : Nat) (T : Store), 0 < lim → F_law_take [rowD ns, .loc 0, .int lim] (spot k :: T) = .ok (.int (dr ns k lim)) (spot (k + 1) :: T) := fun lim k T h => take_s h0 h
  have x0 := dr_nonneg (ns := ns) (k := n) (lim := 9) (by decide)
  have x1 := dr_lt (ns := ns) (k := n) (lim := 9) (by decide)
  by_cases h7 : dr ns n 9 = 7 ∨ dr ns n 9 = 8
  · refine ⟨"choice", [], n + 1, ⟨rfl, by decide, fun j => ⟨by simp, fun d hd => ?_⟩⟩, ?_⟩
    · simp at hd
      subst hd
      exact Dat_str.mpr (by decide +kernel)
    · rcases h7 with h | h <;> simp [F_law_kind, b_law_kind, ev_run, ts, h]
  · have h7a : ¬ dr ns n 9 = 7 := fun z => h7 (.inl z)
    have h8a : ¬ dr ns n 9 = 8 := fun z => h7 (.inr z)
    by_cases h6 : dr ns n 9 = 6
    · obtain ⟨x, hx, e1⟩ := pick_s (T := T) h0 (n := n + 1) (ds := [.str "go", .str "stop", .str "pay"]) (by simp)
      obtain ⟨z, rfl, hz⟩ : ∃ z, x = .str z ∧ (z = "go" ∨ z = "stop" ∨ z = "pay") := by
        simp at hx
        rcases hx with rfl | rfl | rfl <;> exact ⟨_, rfl, by simp⟩
      have hw := wS (z := z) (by rcases hz with h | h | h <;> simp [h])
      refine ⟨"signal", [.str z], n + 1 + 1, ⟨by simp [isKind, kindRest_signal, kSignal, isWord, hw.1], by decide, fun j => ⟨by simp, fun d hd => ?_⟩⟩, ?_⟩
      · simp at hd
        rcases hd with rfl | rfl
        · exact Dat_str.mpr (by decide +kernel)
        · exact Dat_str.mpr hw.2
      · simp [F_law_kind, b_law_kind, ev_run, ts, h6, e1]
    · by_cases h5 : dr ns n 9 = 5
      · obtain ⟨x, hx, e1⟩ := atI_any (xs := [.int 1, .int 3, .int 10, .int 40, .int 300, .int 1000]) (dr_nonneg (ns := ns) (k := (n + 1 : Nat)) (lim := 6) (by decide)) (dr_lt (ns := ns) (k := (n + 1 : Nat)) (lim := 6) (by decide))
        obtain ⟨t, rfl, l1, l2⟩ : ∃ t, x = .int t ∧ 1 ≤ t ∧ t ≤ 1000 := by
          simp at hx
          rcases hx with rfl | rfl | rfl | rfl | rfl | rfl <;> exact ⟨_, rfl, by decide, by decide⟩
        obtain ⟨k, n', hk, e2⟩ := calendar_s (T := T) h0 (n := n + 1 + 1)
        have hw : isWithin 1 1000 (.int t) = true := isWithin_iff.mpr ⟨t, rfl, l1, l2⟩
        refine ⟨"wait", [.int t, kD k], n', ⟨by simp [isKind, kindRest_wait, kWait, hw, isCal_k hk], by decide, fun j => ⟨by simp, fun d hd => ?_⟩⟩, ?_⟩
        · simp at hd
          rcases hd with rfl | rfl | rfl
          · exact Dat_str.mpr (by decide +kernel)
          · simp
          · exact Dat_k hk
        · simp at e1
          simp [F_law_kind, b_law_kind, ev_run, ts, h5, e1, e2]
      · obtain ⟨u, hu, e1⟩ := atI_any (xs := [.non, .str "bin", .str "back", .str "pens"]) (dr_nonneg (ns := ns) (k := (n + 1 : Nat)) (lim := 4) (by decide)) (dr_lt (ns := ns) (k := (n + 1 : Nat)) (lim := 4) (by decide))
        obtain ⟨x, hx, e2⟩ := atI_any (xs := [.int 1, .int 3, .int 10, .int 50, .int 1000]) (dr_nonneg (ns := ns) (k := (n + 1 + 1 : Nat)) (lim := 5) (by decide)) (dr_lt (ns := ns) (k := (n + 1 + 1 : Nat)) (lim := 5) (by decide))
        obtain ⟨t, rfl, l1, l2⟩ : ∃ t, x = .int t ∧ 1 ≤ t ∧ t ≤ 1000 := by
          simp at hx
          rcases hx with rfl | rfl | rfl | rfl | rfl <;> exact ⟨_, rfl, by decide, by decide⟩
        obtain ⟨q, hq, e3⟩ := pick_s (T := T) h0 (n := n + 1 + 1 + 1) (ds := [.str "pens", .str "ink"]) (by simp)
        obtain ⟨z, rfl, hz⟩ : ∃ z, q = .str z ∧ (z = "pens" ∨ z = "ink") := by
          simp at hq
          rcases hq with rfl | rfl <;> exact ⟨_, rfl, by simp⟩
        have hw := wS (z := z) (by rcases hz with h | h <;> simp [h])
        have y0 := dr_nonneg (ns := ns) (k := (n + 1 + 1 + 1 + 1 : Nat)) (lim := 5) (by decide)
        have y1 := dr_lt (ns := ns) (k := (n + 1 + 1 + 1 + 1 : Nat)) (lim := 5) (by decide)
        have hu2 : isUndo u = true ∧ ∀ j, Dat j u := by
          simp at hu
          rcases hu with rfl | rfl | rfl | rfl
          · exact ⟨rfl, fun j => Dat_non⟩
          · exact ⟨by decide +kernel, fun j => Dat_str.mpr (by decide +kernel)⟩
          · exact ⟨by decide +kernel, fun j => Dat_str.mpr (by decide +kernel)⟩
          · exact ⟨by decide +kernel, fun j => Dat_str.mpr (by decide +kernel)⟩
        have w1 : isWithin 1 5 (.int (1 + dr ns ((n + 1 + 1 + 1 + 1 : Nat) : Int) 5)) = true := isWithin_iff.mpr ⟨_, rfl, by omega, by omega⟩
        have w2 : isWithin 1 1000 (.int t) = true := isWithin_iff.mpr ⟨t, rfl, l1, l2⟩
        refine ⟨"task", [.str z, .int (1 + dr ns ((n + 1 + 1 + 1 + 1 : Nat) : Int) 5), .int t, u], n + 1 + 1 + 1 + 1 + 1, ⟨by simp only [isKind, kindRest_task, kTask, isWord, hw.1, w1, w2, hu2.1, Bool.and_self], by decide, fun j => ⟨by simp, fun d hd => ?_⟩⟩, ?_⟩
        · simp at hd
          rcases hd with rfl | rfl | rfl | rfl | rfl
          · exact Dat_str.mpr (by decide +kernel)
          · exact Dat_str.mpr hw.2
          · simp
          · simp
          · exact hu2.2 _
        · simp at e1 e2
          simp [F_law_kind, b_law_kind, ev_run, ts, h5, h6, h7a, h8a, e1, e2, e3]
end Wh

/-! sound nets as they are drawn: what the makers keep -/
namespace Wh
open PySem PySem.Spec PyProof.Rows L2 Wd
/-- a step being made -/
structure Rw where
  kn : Str
  kr : List D
  ins : List Int
  outs : List Int
def Rw.dat (s : Rw) : D := .lst [.tup (.str s.kn :: s.kr), .lst (dInts s.ins), .lst (dInts s.outs)]
def hoD (h : Int × Int) : D := .tup [.int h.1, .int h.2]
structure Rw.Ok (P : Int) (s : Rw) : Prop where
  kd : Kd s.kn s.kr
  i0 : s.ins ≠ []
  o0 : s.outs ≠ []
  ind : s.ins.Nodup
  ond : s.outs.Nodup
  ir : ∀ x ∈ s.ins, 0 ≤ x ∧ x < P
  or : ∀ x ∈ s.outs, 0 ≤ x ∧ x < P
  i1 : (1 : Int) ∉ s.ins
def Rw.Up (φ : Int → Int) (s : Rw) : Prop := ∀ a ∈ s.ins, ∀ c ∈ s.outs, φ a < φ c
structure SN (φ : Int → Int) (hs : List (Int × Int)) (ss : List Rw) (P : Int) : Prop where
  p2 : 2 ≤ P
  p8 : P ≤ 8
  hole : ∀ h ∈ hs, (0 ≤ h.1 ∧ h.1 < P) ∧ h.1 ≠ 1 ∧ (0 ≤ h.2 ∧ h.2 < P) ∧ φ h.1 < φ h.2
  step : ∀ s ∈ ss, s.Ok P
  up : ∀ i (h : i < ss.length), ss[i].Up φ ∨ ∃ j, ∃ h' : j < ss.length, j ≠ i ∧ ss[j].ins = ss[i].ins
section
variable {φ ψ : Int → Int} {hs : List (Int × Int)} {ss : List Rw} {P P' : Int}
theorem Rw.Ok.mono {s : Rw} (h : s.Ok P) (l : P ≤ P') : s.Ok P' :=
  ⟨h.kd, h.i0, h.o0, h.ind, h.ond, fun x hx => by have := h.ir x hx; omega, fun x hx => by have := h.or x hx; omega, h.i1⟩
theorem SN.lift (I : SN φ hs ss P) (hψ : ∀ x, 0 ≤ x → x < P → ψ x = 3 * φ x) (l : P ≤ P') (h8 : P' ≤ 8) : SN ψ hs ss P' := by
  refine ⟨by have := I.p2; omega, h8, fun h hh => ?_, fun s hs => (I.step s hs).mono l, fun i hi => ?_⟩
  · obtain ⟨h1, h2, h3, h4⟩ := I.hole h hh
    refine ⟨by omega, h2, by omega, ?_⟩
    rw [hψ _ h1.1 h1.2, hψ _ h3.1 h3.2]
    omega
  · rcases I.up i hi with h | h
    · refine .inl fun a ha c hc => ?_
      have o := I.step _ (List.getElem_mem hi)
      have h1 := o.ir a ha
      have h2 := o.or c hc
      have := h a ha c hc
      rw [hψ _ h1.1 h1.2, hψ _ h2.1 h2.2]
      omega
    · exact .inr h
theorem SN.holes {hs' : List (Int × Int)} (I : SN φ hs ss P) (h : ∀ h ∈ hs', h ∈ hs ∨ ((0 ≤ h.1 ∧ h.1 < P) ∧ h.1 ≠ 1 ∧ (0 ≤ h.2 ∧ h.2 < P) ∧ φ h.1 < φ h.2)) : SN φ hs' ss P :=
  ⟨I.p2, I.p8, fun q hq => by
    rcases h q hq with z | z
    · exact I.hole q z
    · exact z, I.step, I.up⟩
theorem SN.addUp {s : Rw} (I : SN φ hs ss P) (o : s.Ok P) (u : s.Up φ) : SN φ hs (ss ++ [s]) P := by
  refine ⟨I.p2, I.p8, I.hole, fun t ht => ?_, fun i hi => ?_⟩
  · rcases List.mem_append.mp ht with z | z
    · exact I.step t z
    · rw [List.mem_singleton.mp z]; exact o
  · by_cases h : i < ss.length
    · rw [List.getElem_append_left h]
      rcases I.up i h with z | ⟨j, hj, z1, z2⟩
      · exact .inl z
      · exact .inr ⟨j, by simp; omega, z1, by rw [List.getElem_append_left hj]; exact z2⟩
    · have : i = ss.length := by simp at hi; omega
      subst this
      refine .inl ?_
      simpa using u
/-- one step back and its fellow -/
theorem SN.addBack {s t : Rw} (I : SN φ hs ss P) (o : s.Ok P) (o' : t.Ok P) (e : s.ins = t.ins) (u : t.Up φ) : SN φ hs (ss ++ [s, t]) P := by
  refine ⟨I.p2, I.p8, I.hole, fun q hq => ?_, fun i hi => ?_⟩
  · rcases List.mem_append.mp hq with z | z
    · exact I.step q z
    · simp at z
      rcases z with rfl | rfl
      · exact o
      · exact o'
  · by_cases h : i < ss.length
    · rw [List.getElem_append_left h]
      rcases I.up i h with z | ⟨j, hj, z1, z2⟩
      · exact .inl z
      · exact .inr ⟨j, by simp; omega, z1, by rw [List.getElem_append_left hj]; exact z2⟩
    · by_cases h2 : i = ss.length
      · subst h2
        refine .inr ⟨ss.length + 1, by simp, by omega, ?_⟩
        simp [e]
      · have : i = ss.length + 1 := by simp at hi; omega
        subst this
        refine .inl ?_
        simpa using u
def lift1 (φ : Int → Int) (P v : Int) (x : Int) : Int := if x = P then v else 3 * φ x
theorem lift1_old {v x : Int} (h : x < P) : lift1 φ P v x = 3 * φ x := by
  unfold lift1
  rw [if_neg (by omega)]
theorem lift1_new {v : Int} : lift1 φ P v P = v := by
  unfold lift1
  rw [if_pos rfl]
variable {a c : Int}
/-- one place between -/
theorem SN.way1 (I : SN φ hs ss P) (ha : 0 ≤ a ∧ a < P) (h1 : a ≠ 1) (hc : 0 ≤ c ∧ c < P) (u : φ a < φ c) (hP : P < 8) : SN (lift1 φ P (3 * φ a + 1)) (hs ++ [(a, P), (P, c)]) ss (P + 1) := by
  have p2 := I.p2
  refine (I.lift (P' := P + 1) (ψ := lift1 φ P (3 * φ a + 1)) (fun x _ hx => lift1_old hx) (by omega) (by omega)).holes fun h hh => ?_
  rcases List.mem_append.mp hh with z | z
  · exact .inl z
  · right
    simp at z
    rcases z with rfl | rfl
    · refine ⟨by simp; omega, h1, by simp; omega, ?_⟩
      show lift1 φ P (3 * φ a + 1) a < lift1 φ P (3 * φ a + 1) P
      rw [lift1_new, lift1_old ha.2]; omega
    · refine ⟨by simp; omega, by simp; omega, by simp; omega, ?_⟩
      show lift1 φ P (3 * φ a + 1) P < lift1 φ P (3 * φ a + 1) c
      rw [lift1_new, lift1_old hc.2]; omega
theorem Rw.ok1 {kn : Str} {kr : List D} (k : Kd kn kr) (ha : 0 ≤ a ∧ a < P) (h1 : a ≠ 1) (hc : 0 ≤ c ∧ c < P) : (⟨kn, kr, [a], [c]⟩ : Rw).Ok P :=
  ⟨k, by simp, by simp, by simp, by simp, fun x hx => by simp at hx; subst hx; exact ha, fun x hx => by simp at hx; subst hx; exact hc, by simp; exact fun z => h1 z.symm⟩
theorem Rw.up1 {kn : Str} {kr : List D} (u : φ a < φ c) : (⟨kn, kr, [a], [c]⟩ : Rw).Up φ := fun x hx y hy => by
  simp at hx hy
  subst hx hy
  exact u
theorem SN.way5 {kn : Str} {kr : List D} (I : SN φ hs ss P) (ha : 0 ≤ a ∧ a < P) (h1 : a ≠ 1) (hc : 0 ≤ c ∧ c < P) (u : φ a < φ c) (k : Kd kn kr) : SN φ hs (ss ++ [⟨kn, kr, [a], [c]⟩]) P :=
  I.addUp (Rw.ok1 k ha h1 hc) (Rw.up1 u)
theorem SN.way4 {kn kn' : Str} {kr kr' : List D} (I : SN φ hs ss P) (ha : 0 ≤ a ∧ a < P) (h1 : a ≠ 1) (hc : 0 ≤ c ∧ c < P) (u : φ a < φ c) (hP : P < 8) (k : Kd kn kr) (k' : Kd kn' kr') :
    SN (lift1 φ P (3 * φ a + 1)) (hs ++ [(a, P)]) (ss ++ [⟨kn, kr, [P], [a]⟩, ⟨kn', kr', [P], [c]⟩]) (P + 1) := by
  have p2 := I.p2
  have J := I.lift (P' := P + 1) (ψ := lift1 φ P (3 * φ a + 1)) (fun x _ hx => lift1_old hx) (by omega) (by omega)
  refine SN.addBack (J.holes fun h hh => ?_) (Rw.ok1 k (by omega) (by omega) (by omega)) (Rw.ok1 k' (by omega) (by omega) (by omega)) rfl (Rw.up1 ?_)
  · rcases List.mem_append.mp hh with z | z
    · exact .inl z
    · right
      simp at z
      subst z
      refine ⟨by simp; omega, h1, by simp; omega, ?_⟩
      show lift1 φ P (3 * φ a + 1) a < lift1 φ P (3 * φ a + 1) P
      rw [lift1_new, lift1_old ha.2]; omega
  · rw [lift1_new, lift1_old hc.2]; omega
def lift3 (φ : Int → Int) (P v : Int) (x : Int) : Int := if x = P ∨ x = P + 1 then v else if x = P + 2 ∨ x = P + 3 then v + 1 else 3 * φ x
theorem lift3_old {v x : Int} (h : x < P) : lift3 φ P v x = 3 * φ x := by
  unfold lift3
  rw [if_neg (by omega), if_neg (by omega)]
theorem lift3_lo {v x : Int} (h : x = P ∨ x = P + 1) : lift3 φ P v x = v := by
  unfold lift3
  rw [if_pos h]
theorem lift3_hi {v x : Int} (h : x = P + 2 ∨ x = P + 3) : lift3 φ P v x = v + 1 := by
  unfold lift3
  rw [if_neg (by omega), if_pos h]
theorem SN.way3 {kn kn' : Str} {kr kr' : List D} (I : SN φ hs ss P) (ha : 0 ≤ a ∧ a < P) (h1 : a ≠ 1) (hc : 0 ≤ c ∧ c < P) (u : φ a < φ c) (hP : P < 5) (k : Kd kn kr) (k' : Kd kn' kr') :
    SN (lift3 φ P (3 * φ a + 1)) (hs ++ [(P, P + 2), (P + 1, P + 3)]) (ss ++ [⟨kn, kr, [a], [P, P + 1]⟩, ⟨kn', kr', [P + 2, P + 3], [c]⟩]) (P + 4) := by
  have p2 := I.p2
  have J := I.lift (P' := P + 4) (ψ := lift3 φ P (3 * φ a + 1)) (fun x _ hx => lift3_old hx) (by omega) (by omega)
  have J2 : SN (lift3 φ P (3 * φ a + 1)) (hs ++ [(P, P + 2), (P + 1, P + 3)]) ss (P + 4) := J.holes fun h hh => by
    rcases List.mem_append.mp hh with z | z
    · exact .inl z
    · right
      simp at z
      rcases z with rfl | rfl
      · refine ⟨by simp; omega, by simp; omega, by simp; omega, ?_⟩
        show lift3 φ P (3 * φ a + 1) P < lift3 φ P (3 * φ a + 1) (P + 2)
        rw [lift3_lo (by omega), lift3_hi (by omega)]; omega
      · refine ⟨by simp; omega, by simp; omega, by simp; omega, ?_⟩
        show lift3 φ P (3 * φ a + 1) (P + 1) < lift3 φ P (3 * φ a + 1) (P + 3)
        rw [lift3_lo (by omega), lift3_hi (by omega)]; omega
  have J3 := J2.addUp (s := ⟨kn, kr, [a], [P, P + 1]⟩) ⟨k, by simp, by simp, by simp, by simp; omega, fun x hx => by simp at hx; omega, fun x hx => by simp at hx; omega, by simp; omega⟩ (fun x hx y hy => by
    simp at hx hy
    subst hx
    rw [lift3_old ha.2, lift3_lo hy]; omega)
  have J4 := J3.addUp (s := ⟨kn', kr', [P + 2, P + 3], [c]⟩) ⟨k', by simp, by simp, by simp, by simp, fun x hx => by simp at hx; omega, fun x hx => by simp at hx; omega, by simp; omega⟩ (fun x hx y hy => by
    simp at hx hy
    subst hy
    rw [lift3_hi hx, lift3_old hc.2]; omega)
  rw [List.append_assoc] at J4
  exact J4
theorem SN.start : SN (fun x => x) [(0, 1)] [] 2 := ⟨by decide, by decide, fun h hh => by simp at hh; subst hh; decide, fun _ h => (nomatch h), fun i h => by simp at h⟩
end
end Wh

/-! sound nets as they are drawn: the loop over the holes -/
namespace Wh
open PySem PySem.Spec PyProof.Rows L2 Wd
variable {S T : Store}
theorem eraseIdx_map' {α β : Type} {f : α → β} : ∀ {l : List α} {i : Nat}, (l.map f).eraseIdx i = (l.eraseIdx i).map f
  | [], _ => rfl
  | _ :: _, 0 => rfl
  | a :: l, i + 1 => by simpa using eraseIdx_map' (l := l) (i := i)
/-- the state in the loop over the holes -/
def snM (ns : List Int) (hs : List (Int × Int)) (ss : List Rw) (P : Int) (n : Nat) (T : Store) (j : Sl × Sl × Sl × Sl × Sl) : Ms :=
  ⟨[.val (rowD ns), .val (.loc 0), .own (hs.map hoD), .own (ss.map Rw.dat), .val (.int P), j.1, .un, .un, .un, j.2.1, .un, .un, j.2.2.1, j.2.2.2.1, j.2.2.2.2, .un, .un, .un, .un, .un], spot n :: T⟩
theorem sn_turn {ns : List Int} (h0 : ns ≠ []) {φ : Int → Int} {hs : List (Int × Int)} {ss : List Rw} {P : Int} (I : SN φ hs ss P) (ht : ss.length + hs.length ≤ 9) {n : Nat} {j : Sl × Sl × Sl × Sl × Sl} {d : D} (hj : notOwn (some j.2.1) = true) :
    (∃ j' : Sl × Sl × Sl × Sl × Sl, notOwn (some j'.2.1) = true ∧ forB lp_law_sound_net_2 (tgN 5 d (snM ns hs ss P n T j)) = .brk (snM ns hs ss P n T j')) ∨
    ∃ φ' hs' ss' P' n', ∃ j' : Sl × Sl × Sl × Sl × Sl, notOwn (some j'.2.1) = true ∧ SN φ' hs' ss' P' ∧ ss'.length + hs'.length ≤ 9 ∧ forB lp_law_sound_net_2 (tgN 5 d (snM ns hs ss P n T j)) = .next (snM ns hs' ss' P' n' T j') := by
  obtain ⟨j5, j9, j12, j13, j14⟩ := j
  have ts : ∀ (lim : Int) (k : Nat) (T : Store), 0 < lim → F_law_take [rowD ns, .loc 0, .int lim] (spot k :: T) = .ok (.int (dr ns k lim)) (spot (k + 1) :: T) := fun lim k T h => take_s h0 h
  by_cases hh : hs.length = 0
  · exact .inl ⟨(.val d, j9, j12, j13, j14), hj, by simp [snM, lp_law_sound_net_2, List.length_eq_zero_iff.mp hh]⟩
  · by_cases h9 : ss.length + hs.length = 9
    · exact .inl ⟨(.val d, j9, j12, j13, j14), hj, by
        have : (9 : Int) ≤ (ss.length : Int) + hs.length := by omega
        simp [snM, lp_law_sound_net_2, hh, this, show ¬ hs = [] from fun z => hh (by rw [z]; rfl)]⟩
    · right
      have hl : (0 : Int) < hs.length := by omega
      have l9 : ¬ (9 : Int) ≤ (ss.length : Int) + hs.length := by omega
      have d0 := dr_nonneg (ns := ns) (k := n) hl
      have d1 := dr_lt (ns := ns) (k := n) hl
      have hi : (dr ns n hs.length).toNat < hs.length := by omega
      have x0 := dr_nonneg (ns := ns) (k := (n + 1 : Nat)) (lim := 6) (by decide)
      have x1 := dr_lt (ns := ns) (k := (n + 1 : Nat)) (lim := 6) (by decide)
      have e0 := ts hs.length n T hl
      have e1 := ts 6 (n + 1) T (by decide)
      generalize hiv : dr ns (n : Int) hs.length = iv at d0 d1 hi e0
      generalize hwy : dr ns ((n + 1 : Nat) : Int) 6 = wy at x0 x1 e1
      rcases hac : hs[iv.toNat] with ⟨a, c⟩
      have hm := I.hole _ (List.getElem_mem hi)
      rw [hac] at hm
      obtain ⟨ha, h1, hc, u⟩ := hm
      have hlen : (hs.eraseIdx iv.toNat).length = hs.length - 1 := List.length_eraseIdx_of_lt hi
      have J : SN φ (hs.eraseIdx iv.toNat) ss P := I.holes fun q hq => .inl (List.mem_of_mem_eraseIdx hq)
      have h63 : iv < 9223372036854775808 := by omega
      have h62 : -9223372036854775808 ≤ iv := by omega
      have ixn : ixN hs.length iv = some iv.toNat := ixN_nat d0 d1
      have hne : ¬ hs = [] := fun z => hh (by rw [z]; rfl)
      have sl : ss.length < 16777216 := by omega
      have sl2 : ss.length + 1 < 16777216 := by omega
      have p2 := I.p2
      obtain ⟨hs', hE⟩ : ∃ hs', hs.eraseIdx iv.toNat = hs' := ⟨_, rfl⟩
      rw [hE] at hlen J
      have hl' : hs'.length ≤ 16777214 := by omega
      have hl2 : hs'.length < 16777216 := by omega
      have hlz : (hs'.length : Int) = hs.length - 1 := by omega
      by_cases w1 : wy = 1
      · subst w1
        by_cases hP : P < 8
        · refine ⟨_, _, ss, P + 1, n + 1 + 1, (.val d, j9, .val (.int 1), .val (.int a), .val (.int c)), hj, J.way1 ha h1 hc u hP, by simp; omega, ?_⟩
          simp [snM, lp_law_sound_net_2, e0, e1, hh, l9, hne, ixn, h62, h63, hi, hac, hoD, eraseIdx_map', hE, hl', sl, sl2, hlz, hP]
        · obtain ⟨kn, kr, n1, k1, f1⟩ := kind_s (T := T) h0 (n := n + 1 + 1)
          exact ⟨φ, hs', _, P, n1, (.val d, j9, .val (.int 1), .val (.int a), .val (.int c)), hj, J.way5 ha h1 hc u k1, by simp; omega, by simp [snM, lp_law_sound_net_2, e0, e1, hh, l9, hne, ixn, h62, h63, hi, hac, hoD, eraseIdx_map', hE, hl', sl, sl2, hlz, f1, Rw.dat, hP]⟩
      · by_cases w2 : wy = 2
        · subst w2
          have t8 : (ss.length : Int) + (hs.length - 1) < 8 := by omega
          obtain ⟨kn, kr, n1, k1, f1⟩ := kind_s (T := T) h0 (n := n + 1 + 1)
          obtain ⟨kn', kr', n2, k2, f2⟩ := kind_s (T := T) h0 (n := n1)
          have rg : rgD 0 2 = [.int 0, .int 1] := rfl
          refine ⟨φ, hs', (ss ++ [⟨kn, kr, [a], [c]⟩]) ++ [⟨kn', kr', [a], [c]⟩], P, n2, (.val d, .val (.int 1), .val (.int 2), .val (.int a), .val (.int c)), rfl, (J.way5 ha h1 hc u k1).way5 ha h1 hc u k2, by simp; omega, ?_⟩
          simp [snM, lp_law_sound_net_2, e0, e1, hh, l9, hne, ixn, h62, h63, hi, hac, hoD, eraseIdx_map', hE, hl', sl, sl2, hlz, t8, rg, ev_for_cons, lp_law_sound_net_1, f1, f2, Rw.dat]
        · by_cases w3 : wy = 3
          · subst w3
            by_cases hP : P < 5
            · by_cases t6 : (ss.length : Int) + (hs.length - 1) < 6
              · obtain ⟨kn, kr, n1, k1, f1⟩ := kind_s (T := T) h0 (n := n + 1 + 1)
                obtain ⟨kn', kr', n2, k2, f2⟩ := kind_s (T := T) h0 (n := n1)
                refine ⟨_, _, _, P + 4, n2, (.val d, j9, .val (.int 3), .val (.int a), .val (.int c)), hj, J.way3 ha h1 hc u hP k1 k2, by simp; omega, ?_⟩
                simp [snM, lp_law_sound_net_2, e0, e1, hh, l9, hne, ixn, h62, h63, hi, hac, hoD, eraseIdx_map', hE, hl', sl, sl2, hlz, t6, hP, f1, f2, Rw.dat]
              · obtain ⟨kn, kr, n1, k1, f1⟩ := kind_s (T := T) h0 (n := n + 1 + 1)
                exact ⟨φ, hs', _, P, n1, (.val d, j9, .val (.int 3), .val (.int a), .val (.int c)), hj, J.way5 ha h1 hc u k1, by simp; omega, by simp [snM, lp_law_sound_net_2, e0, e1, hh, l9, hne, ixn, h62, h63, hi, hac, hoD, eraseIdx_map', hE, hl', sl, sl2, hlz, f1, Rw.dat, hP, t6]⟩
            · obtain ⟨kn, kr, n1, k1, f1⟩ := kind_s (T := T) h0 (n := n + 1 + 1)
              exact ⟨φ, hs', _, P, n1, (.val d, j9, .val (.int 3), .val (.int a), .val (.int c)), hj, J.way5 ha h1 hc u k1, by simp; omega, by simp [snM, lp_law_sound_net_2, e0, e1, hh, l9, hne, ixn, h62, h63, hi, hac, hoD, eraseIdx_map', hE, hl', sl, sl2, hlz, f1, Rw.dat, hP]⟩
          · by_cases w4 : wy = 4
            · subst w4
              by_cases hP : P < 8
              · by_cases t7 : (ss.length : Int) + (hs.length - 1) < 7
                · obtain ⟨kn, kr, n1, k1, f1⟩ := kind_s (T := T) h0 (n := n + 1 + 1)
                  obtain ⟨kn', kr', n2, k2, f2⟩ := kind_s (T := T) h0 (n := n1)
                  refine ⟨_, _, _, P + 1, n2, (.val d, j9, .val (.int 4), .val (.int a), .val (.int c)), hj, J.way4 ha h1 hc u hP k1 k2, by simp; omega, ?_⟩
                  simp [snM, lp_law_sound_net_2, e0, e1, hh, l9, hne, ixn, h62, h63, hi, hac, hoD, eraseIdx_map', hE, hl', sl, sl2, hlz, t7, hP, f1, f2, Rw.dat, hl2]
                · obtain ⟨kn, kr, n1, k1, f1⟩ := kind_s (T := T) h0 (n := n + 1 + 1)
                  exact ⟨φ, hs', _, P, n1, (.val d, j9, .val (.int 4), .val (.int a), .val (.int c)), hj, J.way5 ha h1 hc u k1, by simp; omega, by simp [snM, lp_law_sound_net_2, e0, e1, hh, l9, hne, ixn, h62, h63, hi, hac, hoD, eraseIdx_map', hE, hl', sl, sl2, hlz, f1, Rw.dat, hP, t7]⟩
              · obtain ⟨kn, kr, n1, k1, f1⟩ := kind_s (T := T) h0 (n := n + 1 + 1)
                exact ⟨φ, hs', _, P, n1, (.val d, j9, .val (.int 4), .val (.int a), .val (.int c)), hj, J.way5 ha h1 hc u k1, by simp; omega, by simp [snM, lp_law_sound_net_2, e0, e1, hh, l9, hne, ixn, h62, h63, hi, hac, hoD, eraseIdx_map', hE, hl', sl, sl2, hlz, f1, Rw.dat, hP]⟩
            · obtain ⟨kn, kr, n1, k1, f1⟩ := kind_s (T := T) h0 (n := n + 1 + 1)
              exact ⟨φ, hs', _, P, n1, (.val d, j9, .val (.int wy), .val (.int a), .val (.int c)), hj, J.way5 ha h1 hc u k1, by simp; omega, by simp [snM, lp_law_sound_net_2, e0, e1, hh, l9, hne, ixn, h62, h63, hi, hac, hoD, eraseIdx_map', hE, hl', sl, sl2, hlz, f1, Rw.dat, w1, w2, w3, w4]⟩
end Wh

/-! nets as records; no circle where places rise -/
namespace Wh
open PySem PySem.Spec PyProof.Rows L2 Wd
variable {S T : Store} {d : D} {ds : List D}
theorem word_dat {z : Str} (h : wordS z = true) : z.length ≤ 16777216 ∧ PyData.canLay0 (.str z) = true := by
  unfold wordS at h
  rw [Bool.and_eq_true] at h
  obtain ⟨h1, h2⟩ := h
  have h1 := of_decide_eq_true h1
  refine ⟨by omega, ?_⟩
  simp only [PyData.canLay0, PyData.strOk]
  rw [← Array.all_toList, List.all_eq_true]
  intro c hc
  have h3 := of_decide_eq_true (List.all_eq_true.mp h2 c hc)
  have h4 : ∀ c ∈ letters.cps.toList, decide (c < 0x110000) = true := by decide +kernel
  simpa using h4 c h3
theorem isWord_dat {k : Nat} (h : isWord d = true) : Dat k d := by
  match d, h with
  | .str z, h => exact Dat_str.mpr (word_dat h)
theorem isWithin_dat {k : Nat} {lo hi : Int} (h : isWithin lo hi d = true) : Dat k d := by
  obtain ⟨i, rfl, _⟩ := isWithin_iff.mp h
  exact Dat_int
theorem isPlaces_dat {k : Nat} {P : Int} (hP : P ≤ 28) (h : isPlaces P d = true) : Dat (k + 1) d := by
  obtain ⟨ns, rfl, h1, _⟩ := isPlaces_iff.mp h
  have := below_len h1 hP
  exact ⟨by simp; omega, fun d hd => by simp at hd; obtain ⟨a, _, rfl⟩ := hd; simp⟩
theorem isCal_dat {k : Nat} (h : isCal d = true) : Dat (k + 2) d := by
  match d, h with
  | .non, _ => exact Dat_non
  | .tup [a, p], h =>
    have h : (isWithin 1 28 a && isPlaces (iOf a) p) = true := h
    rw [Bool.and_eq_true] at h
    obtain ⟨L, rfl, h1, h2⟩ := isWithin_iff.mp h.1
    refine ⟨by simp, fun d hd => ?_⟩
    simp at hd
    rcases hd with rfl | rfl
    · simp
    · exact isPlaces_dat h2 h.2
theorem str5_dat {k : Nat} {z : Str} (h : z = "plain" ∨ z = "choice" ∨ z = "signal" ∨ z = "wait" ∨ z = "task") : Dat k (.str z) := by
  rcases h with rfl | rfl | rfl | rfl | rfl <;> exact Dat_str.mpr (by decide +kernel)
theorem isKind_dat {k : Nat} (h : isKind d = true) : Dat (k + 3) d := by
  obtain ⟨z, ds, rfl⟩ := isKind_iff h
  have h : kindRest z ds = true := h
  have key : (z = "plain" ∨ z = "choice" ∨ z = "signal" ∨ z = "wait" ∨ z = "task") ∧ ds.length ≤ 4 ∧ ∀ d ∈ ds, Dat (k + 2) d := by
    unfold kindRest at h
    split at h
    · rename_i hz
      have : ds = [] := by simpa using h
      subst this
      exact ⟨by rcases hz with h | h <;> simp [h], by simp, fun _ h => (nomatch h)⟩
    · split at h
      · rename_i hz
        match ds, h with
        | [w], h => exact ⟨by simp [hz], by simp, fun d hd => by rw [List.mem_singleton.mp hd]; exact isWord_dat h⟩
      · split at h
        · rename_i hz
          match ds, h with
          | [t, c], h =>
            have h : (isWithin 1 1000 t && isCal c) = true := h
            rw [Bool.and_eq_true] at h
            refine ⟨by simp [hz], by simp, fun d hd => ?_⟩
            simp at hd
            rcases hd with rfl | rfl
            · exact isWithin_dat h.1
            · exact isCal_dat h.2
        · split at h
          · rename_i hz
            match ds, h with
            | [w, t, l, u], h =>
              have h : (isWord w && (isWithin 1 5 t && (isWithin 1 1000 l && isUndo u))) = true := h
              simp only [Bool.and_eq_true] at h
              obtain ⟨h1, h2, h3, h4⟩ := h
              refine ⟨by simp [hz], by simp, fun d hd => ?_⟩
              simp at hd
              rcases hd with rfl | rfl | rfl | rfl
              · exact isWord_dat h1
              · exact isWithin_dat h2
              · exact isWithin_dat h3
              · unfold isUndo at h4
                rw [Bool.or_eq_true] at h4
                rcases h4 with h4 | h4
                · match d, h4 with
                  | .non, _ => exact Dat_non
                · exact isWord_dat h4
          · cases h
  refine ⟨by simp; omega, fun d hd => ?_⟩
  rcases List.mem_cons.mp hd with rfl | hd
  · exact str5_dat key.1
  · exact key.2.2 d hd
theorem St.Ok.dat {P : Int} {s : St} (h : s.Ok P) (hP : P ≤ 28) {k : Nat} : Dat (k + 4) s.dat := by
  have h1 := h.il hP
  have h2 := h.ol hP
  refine ⟨by simp, fun d hd => ?_⟩
  simp at hd
  rcases hd with rfl | rfl | rfl | rfl
  · exact Dat_str.mpr (word_dat h.nm)
  · exact isKind_dat h.kind
  · exact ⟨by simp; omega, fun d hd => by simp at hd; obtain ⟨a, _, rfl⟩ := hd; simp⟩
  · exact ⟨by simp; omega, fun d hd => by simp at hd; obtain ⟨a, _, rfl⟩ := hd; simp⟩
/-! ### nets -/
structure Nt where
  pl : Int
  ss : List St
def Nt.dat (N : Nt) : D := .tup [.int N.pl, .tup (N.ss.map St.dat)]
structure Nt.Ok (N : Nt) : Prop where
  p2 : 2 ≤ N.pl
  p8 : N.pl ≤ 8
  len : N.ss.length ≤ 10
  st : ∀ s ∈ N.ss, s.Ok N.pl
  nd : (N.ss.map St.nm).Nodup
  sh : law2 N.ss = false
  ci : circ (N.ss.map St.stp) = false
theorem steps_stp' {ss : List St} : (ss.map St.dat).map stpOf = ss.map St.stp := steps_stp (by simp) fun i h h' => by simpa using StH.self ss[i]
theorem nameD_map {ss : List St} : (ss.map St.dat).map nameD = ss.map St.nm := by
  rw [List.map_map]
  exact List.map_congr_left fun s _ => nameD_dat
theorem isNet_iff : isNet d = true ↔ ∃ N : Nt, d = N.dat ∧ N.Ok := by
  constructor
  · intro h
    match d, h with
    | .tup [p, .tup ds], h =>
      simp only [isNet, Bool.and_eq_true, Bool.not_eq_true'] at h
      obtain ⟨h1, h2, h3, h4, h5, h6⟩ := h
      obtain ⟨P, rfl, l1, l2⟩ := isWithin_iff.mp h1
      obtain ⟨ss, rfl, ho⟩ := steps_of h3
      have h4 := of_decide_eq_true h4
      rw [nameD_map] at h4
      rw [law2_shares h4] at h5
      rw [steps_stp'] at h6
      exact ⟨⟨P, ss⟩, rfl, l1, l2, by simpa using of_decide_eq_true h2, ho, h4, h5, h6⟩
  · rintro ⟨N, rfl, h⟩
    have h1 : isWithin 2 8 (.int N.pl) = true := isWithin_iff.mpr ⟨_, rfl, h.p2, h.p8⟩
    have h3 : (N.ss.map St.dat).all (isStep N.pl) = true := List.all_eq_true.mpr fun d hd => by
      obtain ⟨s, hs, rfl⟩ := List.mem_map.mp hd
      exact isStep_iff.mpr ⟨s, rfl, h.st s hs⟩
    have h4 := h.nd
    have h5 := h.sh
    rw [← law2_shares h4] at h5
    have h6 := h.ci
    rw [← steps_stp'] at h6
    rw [← nameD_map] at h4
    unfold Nt.dat
    simp only [isNet, iOf, h1, h3, h5, h6, h4, decide_true, Bool.not_false, Bool.and_true, Bool.true_and, List.length_map, h.len]
theorem Nt.Ok.dat {N : Nt} (h : N.Ok) {k : Nat} : Dat (k + 6) N.dat := by
  refine ⟨by simp, fun d hd => ?_⟩
  simp at hd
  rcases hd with rfl | rfl
  · simp
  · have := h.len
    refine ⟨by simp; omega, fun d hd => ?_⟩
    obtain ⟨s, hs, rfl⟩ := List.mem_map.mp hd
    have := h.p8
    exact (h.st s hs).dat (by omega)
/-! ### no circles -/
theorem max_at {α : Type} {f : α → Int} : ∀ {l : List α}, l ≠ [] → ∃ a ∈ l, ∀ c ∈ l, f c ≤ f a
  | [], h => (h rfl).elim
  | [a], _ => ⟨a, by simp, fun c hc => by rw [List.mem_singleton.mp hc]; exact Int.le_refl _⟩
  | a :: c :: l, _ => by
    obtain ⟨m, hm, h⟩ := max_at (f := f) (l := c :: l) (by simp)
    by_cases e : f m ≤ f a
    · refine ⟨a, by simp, fun q hq => ?_⟩
      rcases List.mem_cons.mp hq with rfl | hq
      · exact Int.le_refl _
      · exact Int.le_trans (h q hq) e
    · refine ⟨m, List.mem_cons_of_mem _ hm, fun q hq => ?_⟩
      rcases List.mem_cons.mp hq with rfl | hq
      · omega
      · exact h q hq
theorem shrkN_end {α : Type} {f : α → α → Bool} {l : List α} : shrk f (shrkN f l.length l) = shrkN f l.length l := by
  have h1 := shrkN_succ f l.length l
  have h2 := shrkN_more f l.length l (l.length + 1) (Nat.le_refl _) (by omega)
  rw [← h1, h2]
/-- where the places of all loose steps rise, there is no circle -/
theorem circ_up {ss : List Stp} {φ : Int → Int} (h : ∀ s ∈ ss, loose s = true → s.ins ≠ [] ∧ ∀ a ∈ s.ins, ∀ c ∈ s.outs, φ a < φ c) : circ ss = false := by
  unfold circ
  have hf := shrkN_end (f := feeds) (l := ss.filter loose)
  have hm : ∀ s ∈ shrkN feeds (ss.filter loose).length (ss.filter loose), s ∈ ss.filter loose := fun s hs => shrkN_mem feeds hs
  generalize shrkN feeds (ss.filter loose).length (ss.filter loose) = l at hf hm
  have key : l = [] := by
    false_or_by_contra
    rename_i hne
    have hin : ∀ s ∈ l, ∃ a ∈ s.ins, ∀ c ∈ s.ins, φ c ≤ φ a := fun s hs => by
      have := List.mem_filter.mp (hm s hs)
      exact max_at (h s this.1 this.2).1
    obtain ⟨s, hs, hmax⟩ := max_at (f := fun s : Stp => if h : s.ins ≠ [] then φ (max_at (f := φ) h).choose else 0) hne
    obtain ⟨hs1, hs2⟩ := List.mem_filter.mp (hm s hs)
    obtain ⟨hi, hu⟩ := h s hs1 hs2
    have hsf : s ∈ shrk feeds l := by rw [hf]; exact hs
    obtain ⟨_, hfe⟩ := List.mem_filter.mp hsf
    obtain ⟨t, ht, hst⟩ := List.any_eq_true.mp hfe
    obtain ⟨p, hp1, hp2⟩ := meets_iff.mp hst
    obtain ⟨ht1, ht2⟩ := List.mem_filter.mp (hm t ht)
    have hti := (h t ht1 ht2).1
    have h1 := hmax t ht
    simp only [dif_pos hi, dif_pos hti] at h1
    have h2 := (max_at (f := φ) hti).choose_spec
    have h3 := (max_at (f := φ) hi).choose_spec
    have h4 := hu _ h3.1 p hp1
    have h5 := h2.2 p hp2
    omega
  rw [key]
  rfl
end Wh

/-! sound nets as they are drawn: the steps made -/
namespace Wh
open PySem PySem.Spec PyProof.Rows L2 Wd
variable {S T : Store} {d : D} {ds : List D}
theorem sn_loop {ns : List Int} (h0 : ns ≠ []) {n : Nat} {j : Sl × Sl × Sl × Sl × Sl} (hj : notOwn (some j.2.1) = true) : ∃ φ hs ss P n' j', SN φ hs ss P ∧ ss.length + hs.length ≤ 9 ∧ notOwn (some j'.2.1) = true ∧
    forD (tgN 5) lp_law_sound_net_2 (rgD 0 12) (snM ns [(0, 1)] [] 2 n T j) = .next (snM ns hs ss P n' T j') := by
  obtain ⟨m', e, h⟩ := forD_brk (tg := tgN 5) (F := lp_law_sound_net_2)
    (P := fun i m => ∃ φ hs ss P n' j', SN φ hs ss P ∧ ss.length + hs.length ≤ 9 ∧ notOwn (some j'.2.1) = true ∧ m = snM ns hs ss P n' T j')
    (Q := fun m => ∃ φ hs ss P n' j', SN φ hs ss P ∧ ss.length + hs.length ≤ 9 ∧ notOwn (some j'.2.1) = true ∧ m = snM ns hs ss P n' T j')
    (rgD 0 12) 0 (snM ns [(0, 1)] [] 2 n T j)
    (fun i d m hi ⟨φ, hs, ss, P, n', j', I, ht, hj, em⟩ => by
      subst em
      rcases sn_turn (T := T) h0 I ht (n := n') (d := d) hj with ⟨j2, hj2, e⟩ | ⟨φ', hs', ss', P', n2, j2, hj2, I2, ht2, e⟩
      · exact .inr ⟨_, e, φ, hs, ss, P, n', j2, I, ht, hj2, rfl⟩
      · exact .inl ⟨_, .inl e, φ', hs', ss', P', n2, j2, I2, ht2, hj2, rfl⟩)
    ⟨_, _, _, _, n, j, SN.start, by simp, hj, rfl⟩
  have h : ∃ φ hs ss P n' j', SN φ hs ss P ∧ ss.length + hs.length ≤ 9 ∧ notOwn (some j'.2.1) = true ∧ m' = snM ns hs ss P n' T j' := by
    rcases h with h | h <;> exact h
  obtain ⟨φ, hs, ss, P, n', j', I, ht, hj, em⟩ := h
  subst em
  exact ⟨φ, hs, ss, P, n', j', I, ht, hj, e⟩
/-- the state behind: the holes, the steps -/
def snM2 (ns : List Int) (hs : List (Int × Int)) (ss : List Rw) (P : Int) (n : Nat) (T : Store) (j : Sl × Sl × Sl × Sl × Sl) : Ms :=
  ⟨[.val (rowD ns), .val (.loc 0), .val (.lst (hs.map hoD)), .own (ss.map Rw.dat), .val (.int P), j.1, .un, .un, .un, j.2.1, .un, .un, j.2.2.1, j.2.2.2.1, j.2.2.2.2, .un, .un, .un, .un, .un], spot n :: T⟩
theorem sn_rest {ns : List Int} (h0 : ns ≠ []) {φ : Int → Int} {hs : List (Int × Int)} {ss : List Rw} {P : Int} (I : SN φ hs ss P) (ht : ss.length + hs.length ≤ 9) {n : Nat} {j : Sl × Sl × Sl × Sl × Sl} (hj : notOwn (some j.2.1) = true) :
    ∃ ss' n', ∃ j' : Sl × Sl × Sl × Sl × Sl, SN φ hs ss' P ∧ ss'.length ≤ 9 ∧ notOwn (some j'.2.1) = true ∧ forD (tgT [tgN 13, tgN 14]) lp_law_sound_net_3 (hs.map hoD) (snM2 ns hs ss P n T j) = .next (snM2 ns hs ss' P n' T j') := by
  obtain ⟨m', e, ss', n', j', I', hl, hj', em⟩ := forD_inv (tg := tgT [tgN 13, tgN 14]) (F := lp_law_sound_net_3)
    (P := fun i m => ∃ ss' n', ∃ j' : Sl × Sl × Sl × Sl × Sl, SN φ hs ss' P ∧ ss'.length = ss.length + i ∧ notOwn (some j'.2.1) = true ∧ m = snM2 ns hs ss' P n' T j')
    (hs.map hoD) 0 (snM2 ns hs ss P n T j)
    (fun i d m hi ⟨ss', n', ⟨j5, j9, j12, j13, j14⟩, I', hl, hj, em⟩ => by
      subst em
      rw [List.getElem?_map, Option.map_eq_some_iff] at hi
      obtain ⟨⟨a, c⟩, hi, rfl⟩ := hi
      obtain ⟨hil, hac⟩ := List.getElem?_eq_some_iff.mp hi
      have hm := I.hole _ (List.getElem_mem hil)
      rw [hac] at hm
      obtain ⟨ha, h1, hc, u⟩ := hm
      obtain ⟨kn, kr, n1, k1, f1⟩ := kind_s (T := T) h0 (n := n')
      have sl : ss'.length < 16777216 := by omega
      exact ⟨_, .inl (by simp [snM2, lp_law_sound_net_3, hoD, f1, sl]; rfl), ss' ++ [⟨kn, kr, [a], [c]⟩], n1, (j5, j9, j12, .val (.int a), .val (.int c)), I'.way5 ha h1 hc u k1, by simp; omega, hj, by simp [snM2, Rw.dat]⟩)
    ⟨ss, n, j, I, rfl, hj, rfl⟩
  subst em
  exact ⟨ss', n', j', I', by simp at hl; omega, hj', e⟩
/-! names -/
def nm10 : List Str := ["ask", "asks", "call", "draw", "eat", "fly", "grow", "hunt", "iron", "jumpings"]
def nmAt (p : Int) : Str := nm10.getD p.toNat ""
theorem nm10_at {p : Int} (h0 : 0 ≤ p) (h1 : p < 10) : atI (nm10.map D.str) p = some (.str (nmAt p)) := by
  rw [atI_nat h0 (by simpa [nm10] using h1)]
  have : p.toNat < nm10.length := by simp [nm10]; omega
  simp [nmAt, List.getD, this]
theorem nm10_nd : nm10.Nodup := by decide +kernel
theorem nm10_word : ∀ z ∈ nm10, wordS z = true := by decide +kernel
theorem nmAt_mem {p : Int} (h0 : 0 ≤ p) (h1 : p < 10) : nmAt p ∈ nm10 := by
  have : p.toNat < nm10.length := by simp [nm10]; omega
  simp [nmAt, List.getD, this]
theorem nmAt_inj {p q : Int} (h0 : 0 ≤ p) (h1 : p < 10) (h2 : 0 ≤ q) (h3 : q < 10) (e : nmAt p = nmAt q) : p = q := by
  have l1 : p.toNat < nm10.length := by simp [nm10]; omega
  have l2 : q.toNat < nm10.length := by simp [nm10]; omega
  simp [nmAt, List.getD, l1, l2] at e
  have := (List.getElem_inj nm10_nd).mp e
  omega
theorem names_nd {ps : List Int} (h : ps.Perm (upto 10)) : (ps.map nmAt).Nodup ∧ (∀ z ∈ ps.map nmAt, wordS z = true) ∧ ps.length = 10 := by
  have hm : ∀ p ∈ ps, 0 ≤ p ∧ p < 10 := fun p hp => by
    have := upto_mem.mp (h.mem_iff.mp hp)
    omega
  have hn : ps.Nodup := h.nodup_iff.mpr upto_nodup
  refine ⟨?_, fun z hz => ?_, by have := h.length_eq; simpa using this⟩
  · unfold List.Nodup at hn ⊢
    rw [List.pairwise_map]
    refine hn.imp_of_mem fun {a c} ha hc hne e => hne ?_
    have h1 := hm a ha
    have h2 := hm c hc
    exact nmAt_inj h1.1 h1.2 h2.1 h2.2 e
  · obtain ⟨p, hp, rfl⟩ := List.mem_map.mp hz
    have h1 := hm p hp
    exact nm10_word _ (nmAt_mem h1.1 h1.2)
def nm11 : List Str := "zero" :: nm10
/-- the names that the makers give -/
def Nt.Nm (N : Nt) : Prop := ∀ s ∈ N.ss, s.nm ∈ nm11
/-- a step from what was made -/
def Rw.st (s : Rw) (z : Str) : St := ⟨z, s.kn, s.kr, sortI s.ins, sortI s.outs⟩
def Rw.nil : Rw := ⟨"", [], [], []⟩
def mkAt (nms : List Str) (ss : List Rw) (qs : List Int) (k : Nat) : St := (ss.getD (qs.getD k 0).toNat .nil).st (nms.getD k "")
def mkL (nms : List Str) (ss : List Rw) (qs : List Int) (k : Nat) : List St := (List.range k).map (mkAt nms ss qs)
theorem sort_below {xs : List Int} {P : Int} (h : ∀ x ∈ xs, 0 ≤ x ∧ x < P) (hn : xs.Nodup) : below (sortI xs) P = true := by
  have hp := sortI_perm xs
  have hl := sortI_le xs
  refine below_of (fun p hpp => h p (hp.mem_iff.mp hpp)) ?_
  have hn2 : (sortI xs).Nodup := hp.nodup_iff.mpr hn
  refine (List.pairwise_iff_getElem.mpr fun i j hi hj hij => ?_)
  have h1 := List.pairwise_iff_getElem.mp hl i j hi hj hij
  have h2 := List.pairwise_iff_getElem.mp hn2 i j hi hj hij
  omega
theorem sort_ne {xs : List Int} (h : xs ≠ []) : sortI xs ≠ [] := fun e => h (by
  have := (sortI_perm xs).length_eq
  rw [e] at this
  exact List.length_eq_zero_iff.mp this.symm)
theorem Rw.Ok.st {P : Int} {s : Rw} {z : Str} (h : s.Ok P) (hz : wordS z = true) : (s.st z).Ok P :=
  ⟨hz, h.kd.ok, sort_below h.ir h.ind, sort_below h.or h.ond, sort_ne h.i0, sort_ne h.o0, fun q => h.i1 ((sortI_perm s.ins).mem_iff.mp q)⟩
end Wh

/-! sound nets as they are drawn: the made steps, the plain ones among them -/
namespace Wh
open PySem PySem.Spec PyProof.Rows L2 Wd
variable {S T : Store} {d : D} {ds : List D}
theorem atI_map {α : Type} {f : α → D} {xs : List α} {dflt : α} {i : Int} (h0 : 0 ≤ i) (h1 : i < xs.length) : atI (xs.map f) i = some (f (xs.getD i.toNat dflt)) := by
  rw [atI_nat h0 (by simpa using h1)]
  have : i.toNat < xs.length := by omega
  simp [List.getD, this]
theorem mkL_succ {nms : List Str} {ss : List Rw} {qs : List Int} {k : Nat} : mkL nms ss qs (k + 1) = mkL nms ss qs k ++ [mkAt nms ss qs k] := by
  unfold mkL
  rw [List.range_succ, List.map_append]
  rfl
theorem sn_made {ns : List Int} {hs : List D} {ss : List Rw} {qs : List Int} {nms : List Str} {P : Int} {S : Store} {j5 j12 j13 j14 j9 : Sl} (hq : qs.Perm (upto ss.length)) (hn : nms.length = 10) (hl : ss.length ≤ 9) :
    ∃ j9' j15 j16 j17, forD (tgN 9) lp_law_sound_net_4 (rgD 0 ss.length) ⟨[.val (rowD ns), .val (.loc 0), .val (.lst hs), .own (ss.map Rw.dat), .val (.int P), j5, .val (.lst (nms.map D.str)), .val (.lst (dInts qs)), .own [], j9, .un, .un, j12, j13, j14, .un, .un, .un, .un, .un], S⟩ =
      .next ⟨[.val (rowD ns), .val (.loc 0), .val (.lst hs), .own (ss.map Rw.dat), .val (.int P), j5, .val (.lst (nms.map D.str)), .val (.lst (dInts qs)), .own ((mkL nms ss qs ss.length).map St.dat), j9', .un, .un, j12, j13, j14, j15, j16, j17, .un, .un], S⟩ := by
  have hql : qs.length = ss.length := by have := hq.length_eq; simpa using this
  obtain ⟨m', e, j9', j15, j16, j17, em⟩ := forD_inv (tg := tgN 9) (F := lp_law_sound_net_4)
    (P := fun i m => ∃ j9 j15 j16 j17, m = ⟨[.val (rowD ns), .val (.loc 0), .val (.lst hs), .own (ss.map Rw.dat), .val (.int P), j5, .val (.lst (nms.map D.str)), .val (.lst (dInts qs)), .own ((mkL nms ss qs i).map St.dat), j9, .un, .un, j12, j13, j14, j15, j16, j17, .un, .un], S⟩)
    (rgD 0 ss.length) 0 ⟨[.val (rowD ns), .val (.loc 0), .val (.lst hs), .own (ss.map Rw.dat), .val (.int P), j5, .val (.lst (nms.map D.str)), .val (.lst (dInts qs)), .own [], j9, .un, .un, j12, j13, j14, .un, .un, .un, .un, .un], S⟩
    (fun i d m hi ⟨j9, j15, j16, j17, em⟩ => by
      obtain ⟨rfl, hik⟩ := rgD_get hi
      subst em
      rw [Nat.zero_add] at *
      have hi' : i < ss.length := by omega
      have e1 : atI (dInts qs) (i : Int) = some (.int (qs.getD i 0)) := by
        have := atI_ints (ns := qs) (i := i) (by omega) (by omega)
        simpa using this
      have hqm : qs.getD i 0 ∈ qs := by
        have : i < qs.length := by omega
        simp [List.getD, this]
      have hq2 := upto_mem.mp (hq.mem_iff.mp hqm)
      have e2 := atI_map (f := Rw.dat) (dflt := Rw.nil) (xs := ss) hq2.1 hq2.2
      have e3 : atI (nms.map D.str) (i : Int) = some (.str (nms.getD i "")) := by
        have := atI_map (f := D.str) (dflt := "") (xs := nms) (i := i) (by omega) (by omega)
        simpa using this
      have hml : (mkL nms ss qs i).length < 16777216 := by simp [mkL]; omega
      refine ⟨_, .inl ?_, .val (.int i), .val (.tup (.str (ss.getD (qs.getD i 0).toNat .nil).kn :: (ss.getD (qs.getD i 0).toNat .nil).kr)), .val (.lst (dInts (ss.getD (qs.getD i 0).toNat .nil).ins)), .val (.lst (dInts (ss.getD (qs.getD i 0).toNat .nil).outs)), rfl⟩
      rw [mkL_succ]
      generalize hv : mkAt nms ss qs i = v
      have hv2 : v = (ss.getD (qs.getD i 0).toNat .nil).st (nms.getD i "") := hv.symm
      generalize ss.getD (qs.getD i 0).toNat .nil = w at *
      generalize qs.getD i 0 = q at *
      generalize nms.getD i "" = z at *
      generalize mkL nms ss qs i = ms at *
      subst hv2
      simp [lp_law_sound_net_4, e1, e2, e3, Rw.dat, hml, St.dat, St.kind, Rw.st])
    ⟨j9, .un, .un, .un, rfl⟩
  rw [rgD_length, Nat.zero_add, show ((ss.length : Int) - 0).toNat = ss.length by omega] at em
  subst em
  exact ⟨j9', j15, j16, j17, e⟩
/-! plain ones -/
def St.plain (s : St) : St := ⟨s.nm, "plain", [], s.ins, s.outs⟩
/-- t comes from s: as it is, or plain, where no other shares its ins -/
def PlainOf (ms : List St) (s t : St) : Prop := t = s ∨ (t = s.plain ∧ ∀ x ∈ ms, x.nm ≠ s.nm → meets s.ins x.ins = false)
theorem sn_fresh_turn {ns : List Int} (h0 : ns ≠ []) {P : Int} (hP : P ≤ 28) {ms fs : List St} (ho : ∀ s ∈ ms, s.Ok P) (hnd : (ms.map St.nm).Nodup) (hml : ms.length ≤ 9) (hfl : fs.length < 1000) {s : St} (hs : s ∈ ms) {n : Nat} {r2 r3 r4 r5 r6 r7 r9 r12 r13 r14 r15 r16 r17 : Sl} :
    ∃ t n', PlainOf ms s t ∧ lp_law_sound_net_5 ⟨[.val (rowD ns), .val (.loc 0), r2, r3, r4, r5, r6, r7, .val (.lst (ms.map St.dat)), r9, .own (fs.map St.dat), .val s.dat, r12, r13, r14, r15, r16, r17, .un, .un], spot n :: T⟩ =
      .next ⟨[.val (rowD ns), .val (.loc 0), r2, r3, r4, r5, r6, r7, .val (.lst (ms.map St.dat)), r9, .own ((fs ++ [t]).map St.dat), .val t.dat, r12, r13, r14, r15, r16, r17, .un, .un], spot n' :: T⟩ := by
  have ts : ∀ (lim : Int) (k : Nat) (T : Store), 0 < lim → F_law_take [rowD ns, .loc 0, .int lim] (spot k :: T) = .ok (.int (dr ns k lim)) (spot (k + 1) :: T) := fun lim k T h => take_s h0 h
  have os := ho s hs
  have kd : okEq s.kind = true := (isKind_dat (k := 0) os.kind).okEq (by decide)
  have e3 : okEq (.tup [.str "choice"]) = true := by decide +kernel
  have e8 : ∀ m, oEq false s.kind (.tup [.str "choice"]) m = .ok (.bl (eqD s.kind (.tup [.str "choice"]))) m := fun m => by
    unfold St.kind at kd ⊢
    rw [oEq_tup, if_pos ⟨kd, e3⟩]
    rfl
  have i1 : ∀ m, oIx s.dat (.int 1) m = .ok s.kind m := fun m => by simp [St.dat]
  have i2 : ∀ m, oIx s.dat (.int 2) m = .ok (.tup (dInts s.ins)) m := fun m => by simp [St.dat]
  have i0 : ∀ m, oIx s.dat (.int 0) m = .ok (.str s.nm) m := fun m => by simp [St.dat]
  have hil := os.il hP
  have hil2 : s.ins.length ≤ 16777216 := by omega
  have hfl2 : fs.length < 16777216 := by omega
  have nd : ∀ t ∈ ms, t.nm = s.nm → t = s := fun t ht e => by
    obtain ⟨i, hi, rfl⟩ := List.mem_iff_getElem.mp hs
    obtain ⟨j, hj, rfl⟩ := List.mem_iff_getElem.mp ht
    have := (List.getElem_inj (xs := ms.map St.nm) (h₀ := by simpa using hj) (h₁ := by simpa using hi) hnd).mp (by simpa using e)
    subst this
    rfl
  have cmp : ∀ n, lcD [18] (tgN 18) (tAndD (tOf (Wd.e2 (oEq true) (eVar 18) (eVar 11))) (tOf (Wd.e2 oGt (e1 oLen (eNew (nLc (itE (e2V oIx 11 (eC (.int 2)))) [19] (tgN 19) (tOf (Wd.e2 (oIn false) (eVar 19) (e2V oIx 18 (eC (.int 2))))) (eVar 19)))) (eC (.int 0))))) (eVar 18) (ms.map St.dat) []
      ⟨[.val (rowD ns), .val (.loc 0), r2, r3, r4, r5, r6, r7, .val (.lst (ms.map St.dat)), r9, .own (fs.map St.dat), .val s.dat, r12, r13, r14, r15, r16, r17, .un, .un], spot n :: T⟩ =
      .ok ((ms.filter fun x => !decide (x.nm = s.nm) && meets s.ins x.ins).map St.dat) ⟨[.val (rowD ns), .val (.loc 0), r2, r3, r4, r5, r6, r7, .val (.lst (ms.map St.dat)), r9, .own (fs.map St.dat), .val s.dat, r12, r13, r14, r15, r16, r17, .un, .un], spot n :: T⟩ := fun n => by
    refine lcD_if (enc := St.dat) (k := St.dat) (p := fun x => !decide (x.nm = s.nm) && meets s.ins x.ins) ms (fun x hx => ?_) (by omega)
    have ox := ho x hx
    have okx : okEq x.dat = true := (ox.dat (k := 0) hP).okEq (by decide)
    have oks : okEq s.dat = true := (os.dat (k := 0) hP).okEq (by decide)
    have e4 := dat_eq (nd x hx) (eqD_self (os.dat (k := 0) hP))
    have e9 : ∀ m, oEq true x.dat s.dat m = .ok (.bl (!decide (x.nm = s.nm))) m := fun m => by
      rw [← e4]
      unfold St.dat at okx oks ⊢
      rw [oEq_tup, if_pos ⟨okx, oks⟩]
      rfl
    have i3 : ∀ m, oIx x.dat (.int 2) m = .ok (.tup (dInts x.ins)) m := fun m => by simp [St.dat]
    by_cases q2 : x.nm = s.nm
    · simp [e9, q2]
    · cases q3 : meets s.ins x.ins with
      | true =>
        have q4 : 0 < (s.ins.filter fun y => decide (y ∈ x.ins)).length := by
          obtain ⟨y, h1, h2⟩ := meets_iff.mp q3
          exact List.length_pos_iff_exists_mem.mpr ⟨y, by simp [h1, h2]⟩
        generalize hq : s.ins.filter (fun y => decide (y ∈ x.ins)) = q at q4
        simp [e9, i2, i3, q2, hil2, hq, q4]
      | false =>
        have q4 : (s.ins.filter fun y => decide (y ∈ x.ins)) = [] := by
          rw [List.filter_eq_nil_iff]
          intro y h1 h2
          have : meets s.ins x.ins = true := meets_iff.mpr ⟨y, h1, by simpa using h2⟩
          rw [q3] at this
          cases this
        simp [e9, i2, i3, q2, hil2, q4]
  have sl : cutL [D.str s.nm, s.kind, .tup (dInts s.ins), .tup (dInts s.outs)] (some 2) none = [.tup (dInts s.ins), .tup (dInts s.outs)] := by rw [cutL_drop (by decide)]; rfl
  have es : ∀ m, oSl s.dat (some 2) none m = .ok (.tup [.tup (dInts s.ins), .tup (dInts s.outs)]) m := fun m => by
    unfold St.dat
    simp [sl]
  obtain ⟨L, hL0, hL⟩ : ∃ L : Int, 0 < L ∧ L = if eqD s.kind (.tup [.str "choice"]) = true then 2 else 6 := ⟨_, by split <;> decide, rfl⟩
  have hz := ts L n T hL0
  have step : ∀ m, eIf (tOf (Wd.e2 (oEq false) (e2V oIx 11 (eC (.int 1))) (eTup (aCons (eC (.str "choice")) aNil)))) (eC (.int 2)) (eC (.int 6)) ⟨[.val (rowD ns), .val (.loc 0), r2, r3, r4, r5, r6, r7, .val (.lst (ms.map St.dat)), r9, .own (fs.map St.dat), .val s.dat, r12, r13, r14, r15, r16, r17, .un, .un], m⟩ = .ok (.int L) ⟨[.val (rowD ns), .val (.loc 0), r2, r3, r4, r5, r6, r7, .val (.lst (ms.map St.dat)), r9, .own (fs.map St.dat), .val s.dat, r12, r13, r14, r15, r16, r17, .un, .un], m⟩ := fun m => by
    cases hc : eqD s.kind (.tup [.str "choice"]) with
    | true => rw [hc] at hL; simp at hL; subst hL; simp [i1, e8, hc]
    | false => rw [hc] at hL; simp at hL; subst hL; simp [i1, e8, hc]
  by_cases hd : dr ns n L = 0
  · generalize hF : (ms.filter fun x => !decide (x.nm = s.nm) && meets s.ins x.ins) = F at cmp
    by_cases hf : F = []
    · refine ⟨s.plain, n + 1, .inr ⟨rfl, fun x hx hne => ?_⟩, ?_⟩
      · have := List.filter_eq_nil_iff.mp (hF.trans hf) x hx
        simpa [hne] using this
      · subst hf
        simp only [List.map_nil] at cmp
        have pd : s.plain.dat = .tup [.str s.nm, .tup [.str "plain"], .tup (dInts s.ins), .tup (dInts s.outs)] := rfl
        simp [lp_law_sound_net_5, step, hz, hd, cmp, i0, es, hfl2, pd, -ev_eIf]
    · have hf2 : ¬ (F.length : Int) = 0 := fun z => hf (List.length_eq_zero_iff.mp (by omega))
      exact ⟨s, n + 1, .inl rfl, by simp [lp_law_sound_net_5, step, hz, hd, cmp, hf, hfl2, -ev_eIf]⟩
  · exact ⟨s, n + 1, .inl rfl, by simp [lp_law_sound_net_5, step, hz, hd, hfl2, -ev_eIf]⟩
end Wh

/-! sound nets as they are drawn are nets -/
namespace Wh
open PySem PySem.Spec PyProof.Rows L2 Wd
variable {S T : Store} {d : D} {ds : List D}
theorem plain_ok {P : Int} {s : St} (h : s.Ok P) : s.plain.Ok P := ⟨h.nm, rfl, h.ib, h.ob, h.i0, h.o0, h.i1⟩
def St.unwait (s : St) : St := if s.kn = "wait" then ⟨s.nm, "choice", [], s.ins, s.outs⟩ else s
theorem unwait_nm {s : St} : s.unwait.nm = s.nm := by unfold St.unwait; split <;> rfl
theorem unwait_ins {s : St} : s.unwait.ins = s.ins := by unfold St.unwait; split <;> rfl
theorem unwait_outs {s : St} : s.unwait.outs = s.outs := by unfold St.unwait; split <;> rfl
theorem unwait_ok {P : Int} {s : St} (h : s.Ok P) : s.unwait.Ok P := by
  unfold St.unwait
  split
  · exact ⟨h.nm, rfl, h.ib, h.ob, h.i0, h.o0, h.i1⟩
  · exact h
theorem unwait_plain {s : St} (h : s.unwait.kn = "plain") : s.kn = "plain" := by
  unfold St.unwait at h
  split at h
  · exact absurd (show ("choice" : Str) = "plain" from h) (by decide)
  · exact h
theorem unwait_loose {s : St} (h : loose s.unwait.stp = true) : s.kn = "plain" := by
  unfold loose St.stp at h
  simp only [Bool.or_eq_true, decide_eq_true_eq] at h
  rcases h with h | h
  · exact unwait_plain h.symm
  · unfold St.unwait at h
    split at h
    · exact absurd (show ("wait" : Str) = "choice" from h) (by decide)
    · rename_i hn; exact absurd h.symm hn
section
variable {φ : Int → Int} {hs : List (Int × Int)} {ss : List Rw} {P : Int} {nms : List Str} {qs : List Int} {fs : List St}
/-- what the made steps are -/
structure Made (φ : Int → Int) (P : Int) (ms : List St) : Prop where
  ok : ∀ s ∈ ms, s.Ok P
  nd : (ms.map St.nm).Nodup
  np : ∀ s ∈ ms, s.kn ≠ "plain"
  up : ∀ s ∈ ms, (∀ a ∈ s.ins, ∀ c ∈ s.outs, φ a < φ c) ∨ ∃ x ∈ ms, x.nm ≠ s.nm ∧ x.ins = s.ins
theorem sn_mkL (I : SN φ hs ss P) (hq : qs.Perm (upto ss.length)) (hnd : nms.Nodup) (hw : ∀ z ∈ nms, wordS z = true) (hn : nms.length = 10) (hl : ss.length ≤ 9) : Made φ P (mkL nms ss qs ss.length) := by
  have hql : qs.length = ss.length := by have := hq.length_eq; simpa using this
  have at_ : ∀ i, i < ss.length → ∃ q : Nat, ∃ h : q < ss.length, qs.getD i 0 = q ∧ mkAt nms ss qs i = ss[q].st (nms.getD i "") := fun i hi => by
    have hm : qs.getD i 0 ∈ qs := by
      have : i < qs.length := by omega
      simp [List.getD, this]
    have h2 := upto_mem.mp (hq.mem_iff.mp hm)
    refine ⟨(qs.getD i 0).toNat, by omega, by omega, ?_⟩
    unfold mkAt
    have : (qs.getD i 0).toNat < ss.length := by omega
    congr 1
    simp [List.getD, this] at *
    rw [List.getElem?_eq_getElem this]
    rfl
  have nmw : ∀ i, i < ss.length → wordS (nms.getD i "") = true := fun i hi => hw _ (by
    have : i < nms.length := by omega
    simp [List.getD, this])
  have mem : ∀ s ∈ mkL nms ss qs ss.length, ∃ i, i < ss.length ∧ s = mkAt nms ss qs i := fun s hs => by
    obtain ⟨i, hi, rfl⟩ := List.mem_map.mp hs
    exact ⟨i, List.mem_range.mp hi, rfl⟩
  have inj : ∀ i j, i < ss.length → j < ss.length → nms.getD i "" = nms.getD j "" → i = j := fun i j hi hj e => by
    have h1 : i < nms.length := by omega
    have h2 : j < nms.length := by omega
    simp [List.getD, h1, h2] at e
    exact (List.getElem_inj hnd).mp e
  refine ⟨fun s hs => ?_, ?_, fun s hs => ?_, fun s hs => ?_⟩
  · obtain ⟨i, hi, rfl⟩ := mem s hs
    obtain ⟨q, hq, _, e⟩ := at_ i hi
    rw [e]
    exact (I.step _ (List.getElem_mem hq)).st (nmw i hi)
  · unfold List.Nodup
    rw [List.pairwise_map, mkL, List.pairwise_map]
    refine List.nodup_range.imp_of_mem fun {a c} ha hc hne e => hne ?_
    rw [List.mem_range] at ha hc
    exact inj a c ha hc e
  · obtain ⟨i, hi, rfl⟩ := mem s hs
    obtain ⟨q, hq, _, e⟩ := at_ i hi
    rw [e]
    exact (I.step _ (List.getElem_mem hq)).kd.np
  · obtain ⟨i, hi, rfl⟩ := mem s hs
    obtain ⟨q, hq2, hqi, e⟩ := at_ i hi
    rw [e]
    rcases I.up q hq2 with h | ⟨j, hj, hne, hins⟩
    · exact .inl fun a ha c hc => h a ((sortI_perm _).mem_iff.mp ha) c ((sortI_perm _).mem_iff.mp hc)
    · right
      have hjq : (j : Int) ∈ qs := hq.mem_iff.mpr (upto_mem.mpr ⟨by omega, by omega⟩)
      obtain ⟨k, hk, hkj⟩ := List.mem_iff_getElem.mp hjq
      have hk2 : k < ss.length := by omega
      obtain ⟨q', hq', hqk, e'⟩ := at_ k hk2
      have hkd : qs.getD k 0 = (j : Int) := by simp [List.getD, hk, hkj]
      have : q' = j := by omega
      subst this
      refine ⟨mkAt nms ss qs k, List.mem_map.mpr ⟨k, List.mem_range.mpr hk2, rfl⟩, ?_, ?_⟩
      · rw [e']
        intro z
        have hz : nms.getD k "" = nms.getD i "" := z
        have := inj k i hk2 hi hz
        subst this
        omega
      · rw [e']
        show sortI _ = sortI _
        rw [hins]
structure Fresh (ms fs : List St) : Prop where
  len : fs.length = ms.length
  of : ∀ i (h : i < ms.length) (h' : i < fs.length), PlainOf ms ms[i] fs[i]
theorem fresh_nm {ms fs : List St} (h : Fresh ms fs) : fs.map St.nm = ms.map St.nm := by
  refine List.ext_getElem (by simp [h.len]) fun i h1 h2 => ?_
  simp only [List.getElem_map]
  rcases h.of i (by simpa using h2) (by simpa using h1) with e | ⟨e, _⟩ <;> rw [e] <;> rfl
theorem fresh_mem {ms fs : List St} (h : Fresh ms fs) {t : St} (ht : t ∈ fs) : ∃ s ∈ ms, PlainOf ms s t ∧ t.nm = s.nm ∧ t.ins = s.ins ∧ t.outs = s.outs := by
  obtain ⟨i, hi, rfl⟩ := List.mem_iff_getElem.mp ht
  have hi' : i < ms.length := by have := h.len; omega
  refine ⟨ms[i], List.getElem_mem _, h.of i hi' hi, ?_⟩
  rcases h.of i hi' hi with e | ⟨e, _⟩ <;> rw [e] <;> exact ⟨rfl, rfl, rfl⟩
theorem fresh_ok {ms : List St} (M : Made φ P ms) (h : Fresh ms fs) : (∀ t ∈ fs, t.Ok P) ∧ (fs.map St.nm).Nodup ∧ law2 fs = false ∧ ∀ t ∈ fs, t.kn = "plain" → ∀ a ∈ t.ins, ∀ c ∈ t.outs, φ a < φ c := by
  have pl : ∀ t ∈ fs, t.kn = "plain" → ∃ s ∈ ms, t.nm = s.nm ∧ t.ins = s.ins ∧ t.outs = s.outs ∧ ∀ x ∈ ms, x.nm ≠ s.nm → meets s.ins x.ins = false := fun t ht hk => by
    obtain ⟨s, hs, hp, h1, h2, h3⟩ := fresh_mem h ht
    rcases hp with e | ⟨e, hx⟩
    · exact absurd (by rw [← e]; exact hk) (M.np s hs)
    · exact ⟨s, hs, h1, h2, h3, hx⟩
  refine ⟨fun t ht => ?_, by rw [fresh_nm h]; exact M.nd, ?_, fun t ht hk => ?_⟩
  · obtain ⟨s, hs, hp, h1, h2, h3⟩ := fresh_mem h ht
    rcases hp with e | ⟨e, _⟩
    · rw [e]; exact M.ok s hs
    · rw [e]; exact plain_ok (M.ok s hs)
  · unfold law2
    rw [List.any_eq_false]
    intro t ht hc
    obtain ⟨x, hx, hl⟩ := List.any_eq_true.mp hc
    simp only [lcl, Bool.and_eq_true, Bool.not_eq_true', decide_eq_true_eq, decide_eq_false_iff_not] at hl
    obtain ⟨l1, l2, l3⟩ := hl
    obtain ⟨s, hs, h1, h2, h3, hn⟩ := pl t ht l1
    obtain ⟨y, hy, _, g1, g2, g3⟩ := fresh_mem h hx
    have := hn y hy (by rw [← g1, ← h1]; exact l2)
    rw [← h2, ← g2, l3] at this
    cases this
  · obtain ⟨s, hs, h1, h2, h3, hn⟩ := pl t ht hk
    rw [h2, h3]
    rcases M.up s hs with h | ⟨x, hx, hne, hi⟩
    · exact h
    · have h4 := hn x hx hne
      rw [hi] at h4
      obtain ⟨a, ha⟩ := List.exists_mem_of_ne_nil _ (M.ok s hs).i0
      have h5 : meets s.ins s.ins = true := meets_iff.mpr ⟨a, ha, ha⟩
      rw [h4] at h5
      cases h5
/-- the net that is drawn -/
theorem fresh_net {ms : List St} (M : Made φ P ms) (h : Fresh ms fs) (hP : 2 ≤ P ∧ P ≤ 8) (hl : ms.length ≤ 10) : (circ (fs.map St.stp) = false → (⟨P, fs⟩ : Nt).Ok) ∧ (⟨P, fs.map St.unwait⟩ : Nt).Ok := by
  obtain ⟨h1, h2, h3, h4⟩ := fresh_ok M h
  refine ⟨fun hc => ⟨hP.1, hP.2, by have := h.len; show fs.length ≤ 10; omega, h1, h2, h3, hc⟩, hP.1, hP.2, by have := h.len; simp; omega, fun s hs => ?_, ?_, ?_, ?_⟩
  · obtain ⟨t, ht, rfl⟩ := List.mem_map.mp hs
    exact unwait_ok (h1 t ht)
  · have : (fs.map St.unwait).map St.nm = fs.map St.nm := by
      rw [List.map_map]
      exact List.map_congr_left fun s _ => unwait_nm
    show ((fs.map St.unwait).map St.nm).Nodup
    rw [this]
    exact h2
  · show law2 (fs.map St.unwait) = false
    unfold law2 at h3 ⊢
    rw [List.any_eq_false] at h3 ⊢
    intro s hs hc
    obtain ⟨t, ht, rfl⟩ := List.mem_map.mp hs
    obtain ⟨x, hx, hl⟩ := List.any_eq_true.mp hc
    obtain ⟨y, hy, rfl⟩ := List.mem_map.mp hx
    refine h3 t ht (List.any_eq_true.mpr ⟨y, hy, ?_⟩)
    simp only [lcl, Bool.and_eq_true, Bool.not_eq_true', decide_eq_true_eq, decide_eq_false_iff_not, unwait_nm, unwait_ins] at hl ⊢
    exact ⟨unwait_plain hl.1, hl.2⟩
  · show circ ((fs.map St.unwait).map St.stp) = false
    refine circ_up (φ := φ) fun s hs hl => ?_
    rw [List.map_map] at hs
    obtain ⟨t, ht, rfl⟩ := List.mem_map.mp hs
    have hk := unwait_loose hl
    refine ⟨?_, ?_⟩
    · show t.unwait.ins ≠ []
      rw [unwait_ins]
      exact (h1 t ht).i0
    · show ∀ a ∈ t.unwait.ins, ∀ c ∈ t.unwait.outs, φ a < φ c
      rw [unwait_ins, unwait_outs]
      exact h4 t ht hk
end
end Wh

/-! _law_sound_net -/
namespace Wh
open PySem PySem.Spec PyProof.Rows L2 Wd
variable {S T : Store} {d : D} {ds : List D}
theorem sn_fresh {ns : List Int} (h0 : ns ≠ []) {φ : Int → Int} {P : Int} (hP : P ≤ 28) {ms : List St} (M : Made φ P ms) (hml : ms.length ≤ 9) {n : Nat} {r2 r3 r4 r5 r6 r7 r9 r12 r13 r14 r15 r16 r17 : Sl} :
    ∃ fs n' r11, Fresh ms fs ∧ notOwn (some r11) = true ∧ forD (tgN 11) lp_law_sound_net_5 (ms.map St.dat) ⟨[.val (rowD ns), .val (.loc 0), r2, r3, r4, r5, r6, r7, .val (.lst (ms.map St.dat)), r9, .own [], .un, r12, r13, r14, r15, r16, r17, .un, .un], spot n :: T⟩ =
      .next ⟨[.val (rowD ns), .val (.loc 0), r2, r3, r4, r5, r6, r7, .val (.lst (ms.map St.dat)), r9, .own (fs.map St.dat), r11, r12, r13, r14, r15, r16, r17, .un, .un], spot n' :: T⟩ := by
  obtain ⟨m', e, fs, n', r11, hl, hr, hof, em⟩ := forD_inv (tg := tgN 11) (F := lp_law_sound_net_5)
    (P := fun i m => ∃ (fs : List St) (n' : Nat) (r11 : Sl), fs.length = i ∧ notOwn (some r11) = true ∧ (∀ j (h : j < ms.length) (h' : j < fs.length), PlainOf ms ms[j] fs[j]) ∧ m = ⟨[.val (rowD ns), .val (.loc 0), r2, r3, r4, r5, r6, r7, .val (.lst (ms.map St.dat)), r9, .own (fs.map St.dat), r11, r12, r13, r14, r15, r16, r17, .un, .un], spot n' :: T⟩)
    (ms.map St.dat) 0 ⟨[.val (rowD ns), .val (.loc 0), r2, r3, r4, r5, r6, r7, .val (.lst (ms.map St.dat)), r9, .own [], .un, r12, r13, r14, r15, r16, r17, .un, .un], spot n :: T⟩
    (fun i d m hi ⟨fs, n', r11, hl, hr, hof, em⟩ => by
      subst em
      rw [Nat.zero_add] at hl ⊢
      rw [List.getElem?_map, Option.map_eq_some_iff] at hi
      obtain ⟨s, hi, rfl⟩ := hi
      obtain ⟨hil, hs⟩ := List.getElem?_eq_some_iff.mp hi
      obtain ⟨t, n2, hp, e⟩ := sn_fresh_turn (T := T) h0 hP M.ok M.nd hml (fs := fs) (by omega) (s := s) (by rw [← hs]; exact List.getElem_mem _) (n := n') (r2 := r2) (r3 := r3) (r4 := r4) (r5 := r5) (r6 := r6) (r7 := r7) (r9 := r9) (r12 := r12) (r13 := r13) (r14 := r14) (r15 := r15) (r16 := r16) (r17 := r17)
      refine ⟨_, .inl (by simp only [ev_tgN, putV, ev_forB]; exact e), fs ++ [t], n2, .val t.dat, by simp [hl], rfl, fun j h h' => ?_, rfl⟩
      by_cases hj : j < fs.length
      · rw [List.getElem_append_left hj]
        exact hof j h hj
      · have : j = i := by simp at h'; omega
        subst this
        rw [List.getElem_append_right (by omega)]
        simp [hl, hs]
        exact hp)
    ⟨[], n, .un, rfl, rfl, fun j h h' => by simp at h', rfl⟩
  subst em
  exact ⟨fs, n', r11, ⟨by simpa using hl, hof⟩, hr, e⟩
theorem sn_unwait {fs : List St} {P : Int} (ho : ∀ s ∈ fs, s.Ok P) (hl : fs.length ≤ 10) {r0 r1 r2 r3 r4 r5 r6 r7 r8 r9 r10 r12 r13 r14 r15 r16 r17 : Sl} :
    lcD [11] (tgN 11) tYesD (Wd.e2 oAdd (eTup (aCons (e2V oIx 11 (eC (.int 0))) (aCons (eIf (tOf (Wd.e2 (oEq false) (Wd.e2 oIx (e2V oIx 11 (eC (.int 1))) (eC (.int 0))) (eC (.str "wait")))) (eTup (aCons (eC (.str "choice")) aNil)) (e2V oIx 11 (eC (.int 1)))) aNil))) (eSl (eVar 11) (pSome (eC (.int 2))) pNone)) (fs.map St.dat) []
      ⟨[r0, r1, r2, r3, r4, r5, r6, r7, r8, r9, r10, .un, r12, r13, r14, r15, r16, r17, .un, .un], S⟩ = .ok ((fs.map St.unwait).map St.dat) ⟨[r0, r1, r2, r3, r4, r5, r6, r7, r8, r9, r10, .un, r12, r13, r14, r15, r16, r17, .un, .un], S⟩ := by
  rw [List.map_map]
  refine lcD_of (enc := St.dat) (k := St.dat ∘ St.unwait) fs (fun s _ => ?_) (by omega)
  have sl : cutL [D.str s.nm, .tup (.str s.kn :: s.kr), .tup (dInts s.ins), .tup (dInts s.outs)] (some 2) none = [.tup (dInts s.ins), .tup (dInts s.outs)] := by rw [cutL_drop (by decide)]; rfl
  by_cases h : s.kn = "wait"
  · simp [St.dat, St.kind, h, St.unwait]
    simp [← h, sl]
  · simp [St.dat, St.kind, h, sl, St.unwait]
theorem sound_net_s' {ns : List Int} (h0 : ns ≠ []) {n : Nat} : ∃ (N : Nt) (n' : Nat), N.Ok ∧ N.Nm ∧ F_law_sound_net [rowD ns, .loc 0] (spot n :: T) = .ok N.dat (spot n' :: T) := by
  obtain ⟨φ, hs, ss, P, n1, j, I, ht, hj, e1⟩ := sn_loop (T := T) h0 (n := n) (j := (.un, .un, .un, .un, .un)) rfl
  obtain ⟨ss', n2, ⟨j5, j9, j12, j13, j14⟩, I', hl, hj', e2⟩ := sn_rest (T := T) h0 I ht (n := n1) hj
  obtain ⟨ps, n3, hps, e3⟩ := shuffled_s (T := T) h0 (many := 10) (n := n2) (by decide)
  obtain ⟨qs, n4, hqs, e4⟩ := shuffled_s (T := T) h0 (many := ss'.length) (n := n3) (by omega)
  obtain ⟨hnd, hw, hpl⟩ := names_nd hps
  rw [show ((10 : Nat) : Int) = 10 from rfl] at e3
  have hpl2 : ps.length ≤ 16777216 := by omega
  obtain ⟨j9', j15, j16, j17, e5⟩ := sn_made (ns := ns) (hs := hs.map hoD) (P := P) (S := spot n4 :: T) (j5 := j5) (j12 := j12) (j13 := j13) (j14 := j14) (j9 := j9) hqs (nms := ps.map nmAt) (by simpa using hpl) hl
  have M := sn_mkL I' hqs hnd hw (by simpa using hpl) hl
  have hml : (mkL (ps.map nmAt) ss' qs ss'.length).length ≤ 9 := by simp [mkL]; omega
  obtain ⟨fs, n5, r11, F, hr11, e6⟩ := sn_fresh (T := T) h0 (by have := I'.p8; omega) M hml (n := n4) (r2 := .val (.lst (hs.map hoD))) (r3 := .own (ss'.map Rw.dat)) (r4 := .val (.int P)) (r5 := j5) (r6 := .val (.lst ((ps.map nmAt).map D.str))) (r7 := .val (.lst (dInts qs))) (r9 := j9') (r12 := j12) (r13 := j13) (r14 := j14) (r15 := j15) (r16 := j16) (r17 := j17)
  have hfl : fs.length ≤ 9 := by rw [F.len]; exact hml
  obtain ⟨g1, g2, g3, g4⟩ := fresh_ok M F
  obtain ⟨w1, w2⟩ := fresh_net M F ⟨I'.p2, I'.p8⟩ (by omega)
  have hr : ∀ e ∈ fs.map St.dat, StR e := fun e he => by
    obtain ⟨s, hs, rfl⟩ := List.mem_map.mp he
    exact (StH.self s).stR (g1 s hs) (by have := I'.p8; omega)
  have e7 := law_is_round_ok (S := spot n5 :: T) (b := false) hr (by simp; omega)
  rw [steps_stp', sq_lst] at e7
  have e8 : ∀ S r4 r5 r6 r7 r12 r13 r14, lcD [9] (tgN 9) tYesD (Wd.e2 oIx (eNew (nLst (aCons (eC (.str "ask")) (aCons (eC (.str "asks")) (aCons (eC (.str "call")) (aCons (eC (.str "draw")) (aCons (eC (.str "eat")) (aCons (eC (.str "fly")) (aCons (eC (.str "grow")) (aCons (eC (.str "hunt")) (aCons (eC (.str "iron")) (aCons (eC (.str "jumpings")) aNil)))))))))))) (eVar 9)) (dInts ps) []
      ⟨[.val (rowD ns), .val (.loc 0), .val (.lst (hs.map hoD)), .own (ss'.map Rw.dat), r4, r5, r6, r7, .un, .un, .un, .un, r12, r13, r14, .un, .un, .un, .un, .un], S⟩ = .ok ((ps.map nmAt).map D.str) ⟨[.val (rowD ns), .val (.loc 0), .val (.lst (hs.map hoD)), .own (ss'.map Rw.dat), r4, r5, r6, r7, .un, .un, .un, .un, r12, r13, r14, .un, .un, .un, .un, .un], S⟩ := fun S r4 r5 r6 r7 r12 r13 r14 => by
    rw [List.map_map]
    refine lcD_of (enc := D.int) (k := D.str ∘ nmAt) ps (fun p hp => ?_) (by omega)
    have h1 := upto_mem.mp (hps.mem_iff.mp hp)
    have h2 := nm10_at h1.1 (by omega)
    have h3 : nm10.map D.str = [.str "ask", .str "asks", .str "call", .str "draw", .str "eat", .str "fly", .str "grow", .str "hunt", .str "iron", .str "jumpings"] := rfl
    rw [h3] at h2
    simp [h2]
  have z1 : (12 : Int) ≤ 1000000000 := by decide
  have s1 : snM ns [(0, 1)] [] 2 n T (.un, .un, .un, .un, .un) = ⟨[.val (rowD ns), .val (.loc 0), .own [.tup [.int 0, .int 1]], .own [], .val (.int 2), .un, .un, .un, .un, .un, .un, .un, .un, .un, .un, .un, .un, .un, .un, .un], spot n :: T⟩ := rfl
  rw [s1] at e1
  unfold snM2 at e2
  unfold snM at e1
  have b1 : -1000000000 ≤ (ss'.length : Int) := by omega
  have b2 : (ss'.length : Int) ≤ 1000000000 := by omega
  have hj2 : notOwn (some j9) = true := hj'
  have b3 : fs.length ≤ 16777216 := by omega
  have hnames : ∀ z ∈ fs.map Wh.St.nm, z ∈ nm11 := fun z hz => by
    rw [fresh_nm F] at hz
    obtain ⟨s, hs, rfl⟩ := List.mem_map.mp hz
    obtain ⟨i, hi, rfl⟩ := List.mem_map.mp hs
    rw [List.mem_range] at hi
    have h1 : (mkAt (ps.map nmAt) ss' qs i).nm = (ps.map nmAt).getD i "" := rfl
    rw [h1]
    have h2 : i < ps.length := by omega
    have h3 : (ps.map nmAt).getD i "" = nmAt ps[i] := by simp [List.getD, h2]
    rw [h3]
    have h4 := upto_mem.mp (hps.mem_iff.mp (List.getElem_mem h2))
    exact List.mem_cons_of_mem _ (nmAt_mem h4.1 (by omega))
  generalize hms : mkL (ps.map nmAt) ss' qs ss'.length = ms at e5 e6
  generalize hnm : (ps.map nmAt).map D.str = nmd at e8 e5 e6
  cases hc : circ (fs.map St.stp) with
  | false =>
    rw [hc] at e7
    refine ⟨⟨P, fs⟩, n5, w1 hc, fun s hs => hnames _ (List.mem_map.mpr ⟨s, hs, rfl⟩), ?_⟩
    simp only at e1 e2
    simp [F_law_sound_net, b_law_sound_net, ev_run, e1, e2, e3, e4, e8, e5, e6, e7, b1, b2, hj2, Nt.dat]
  | true =>
    rw [hc] at e7
    refine ⟨⟨P, fs.map St.unwait⟩, n5, w2, fun s hs => ?_, ?_⟩
    · obtain ⟨t, ht, rfl⟩ := List.mem_map.mp hs
      rw [unwait_nm]
      exact hnames _ (List.mem_map.mpr ⟨t, ht, rfl⟩)
    have e9 := fun r0 r1 r2 r3 r4 r5 r6 r7 r8 r9 r10 r12 r13 r14 r15 r16 r17 S => sn_unwait (S := S) g1 (by omega : fs.length ≤ 10) (r0 := r0) (r1 := r1) (r2 := r2) (r3 := r3) (r4 := r4) (r5 := r5) (r6 := r6) (r7 := r7) (r8 := r8) (r9 := r9) (r10 := r10) (r12 := r12) (r13 := r13) (r14 := r14) (r15 := r15) (r16 := r16) (r17 := r17)
    simp only at e1 e2
    simp [F_law_sound_net, b_law_sound_net, ev_run, e1, e2, e3, e4, e8, e5, e6, e7, e9, b1, b2, b3, hj2, hr11, Nt.dat]
theorem sound_net_s {ns : List Int} (h0 : ns ≠ []) {n : Nat} : ∃ (N : Nt) (n' : Nat), N.Ok ∧ F_law_sound_net [rowD ns, .loc 0] (spot n :: T) = .ok N.dat (spot n' :: T) := by
  obtain ⟨N, n', h, _, e⟩ := sound_net_s' (T := T) h0 (n := n)
  exact ⟨N, n', h, e⟩
end Wh

/-! nets with spots changed -/
namespace Wh
open PySem PySem.Spec PyProof.Rows L2 Wd
variable {S T : Store} {d : D} {ds : List D}
def tog (ns : List Int) (p : Int) : List Int := sortI (ns.filter (fun x => !decide (x = p)) ++ if p ∈ ns then [] else [p])
theorem tog_len {ns : List Int} {p : Int} : (tog ns p).length ≤ ns.length + 1 := by
  unfold tog
  rw [(sortI_perm _).length_eq, List.length_append]
  have := List.length_filter_le (fun x => !decide (x = p)) ns
  split <;> simp <;> omega
theorem toggled_s {ns : List Int} {p : Int} (hl : ns.length ≤ 28) : F_law_toggled [.tup (dInts ns), .int p] S = .ok (.tup (dInts (tog ns p))) S := by
  have h1 : ns.length ≤ 16777216 := by omega
  have h3 := List.length_filter_le (fun x => !decide (x = p)) ns
  have h4 : (ns.filter (fun x => !decide (x = p))).length + 1 ≤ 16777216 := by omega
  have h5 : (ns.filter (fun x => !decide (x = p))).length ≤ 16777216 := by omega
  have e1 : lcD [2] (tgN 2) (tOf (Wd.e2 (oEq true) (eVar 2) (eVar 1))) (eVar 2) (dInts ns) [] ⟨[.val (.tup (dInts ns)), .val (.int p), .un], S⟩ = .ok (dInts (ns.filter fun x => !decide (x = p))) ⟨[.val (.tup (dInts ns)), .val (.int p), .un], S⟩ :=
    lcD_if (enc := D.int) (k := D.int) (p := fun x => !decide (x = p)) ns (fun x _ => by by_cases h : x = p <;> simp [h]) h1
  unfold tog
  generalize (ns.filter fun x => !decide (x = p)) = l at *
  by_cases h2 : p ∈ ns
  · simp [F_law_toggled, b_law_toggled, ev_run, e1, h5, h2]
  · have e2 : dInts l ++ [D.int p] = dInts (l ++ [p]) := by simp
    simp [F_law_toggled, b_law_toggled, ev_run, e1, h4, h2]
    have := ev_sortI (ns := l ++ [p]) (m := ⟨[.val (.tup (dInts ns)), .val (.int p), .un], S⟩)
    simp only [List.map_append, List.map_cons, List.map_nil] at this
    simp [this]
/-- steps that are data, whatever they are -/
def StD (s : St) : Prop := ∀ k, Dat (k + 4) s.dat
theorem St.Ok.std {P : Int} {s : St} (h : s.Ok P) (hP : P ≤ 28) : StD s := fun k => h.dat hP
theorem StD.mk {nm kn : Str} {kr : List D} {i o : List Int} (hn : Dat 0 (.str nm)) (hk : ∀ k, Dat (k + 3) (.tup (.str kn :: kr))) (hi : i.length ≤ 16777216) (ho : o.length ≤ 16777216) : StD ⟨nm, kn, kr, i, o⟩ := fun k => by
  refine ⟨by simp, fun d hd => ?_⟩
  simp at hd
  rcases hd with rfl | rfl | rfl | rfl
  · exact Dat_str.mpr (Dat_str.mp hn)
  · exact hk k
  · exact ⟨by simp; omega, fun d hd => by simp at hd; obtain ⟨a, _, rfl⟩ := hd; simp⟩
  · exact ⟨by simp; omega, fun d hd => by simp at hd; obtain ⟨a, _, rfl⟩ := hd; simp⟩
def St.outs' (s : St) (o : List Int) : St := ⟨s.nm, s.kn, s.kr, s.ins, o⟩
def St.ins' (s : St) (i : List Int) : St := ⟨s.nm, s.kn, s.kr, i, s.outs⟩
def zeroSt (kn : Str) (kr : List D) (a c : Int) : St := ⟨"zero", kn, kr, [a], [c]⟩
theorem set_map' {α β : Type} {f : α → β} {l : List α} {i : Nat} {a : α} : (l.map f).set i (f a) = (l.set i a).map f := by rw [List.map_set]
theorem mem_set' {α : Type} {l : List α} {i : Nat} {a x : α} (h : x ∈ l.set i a) : x = a ∨ x ∈ l := by
  rcases List.mem_or_eq_of_mem_set h with h | h
  · exact .inr h
  · exact .inl h
theorem spoilt_s {ns : List Int} (h0 : ns ≠ []) {N : Nt} (hN : N.Ok) {n : Nat} : ∃ (N' : Nt) (n' : Nat), (∀ s ∈ N'.ss, StD s) ∧ N'.ss.length ≤ 11 ∧ (N.Nm → N'.Nm) ∧ F_law_spoilt [rowD ns, .loc 0, N.dat] (spot n :: T) = .ok N'.dat (spot n' :: T) := by
  obtain ⟨P, ss⟩ := N
  have ts : ∀ (lim : Int) (k : Nat) (T : Store), 0 < lim → F_law_take [rowD ns, .loc 0, .int lim] (spot k :: T) = .ok (.int (dr ns k lim)) (spot (k + 1) :: T) := fun lim k T h => take_s h0 h
  have p2 : 2 ≤ P := hN.p2
  have p8 : P ≤ 8 := hN.p8
  have hl : ss.length ≤ 10 := hN.len
  have hst : ∀ s ∈ ss, s.Ok P := hN.st
  have hsd : ∀ s ∈ ss, StD s := fun s hs => (hst s hs).std (by omega)
  have hm : (0 : Int) < imx 1 ss.length := by unfold imx; split <;> omega
  have t1 := ts 6 n T (by decide)
  have t2 := ts (imx 1 ss.length) (n + 1) T hm
  have t3 := ts P (n + 1 + 1) T (by omega)
  have x0 := dr_nonneg (ns := ns) (k := n) (lim := 6) (by decide)
  have x1 := dr_lt (ns := ns) (k := n) (lim := 6) (by decide)
  have y0 := dr_nonneg (ns := ns) (k := (n + 1 : Nat)) hm
  have y1 := dr_lt (ns := ns) (k := (n + 1 : Nat)) hm
  have z0 := dr_nonneg (ns := ns) (k := (n + 1 + 1 : Nat)) (lim := P) (by omega)
  have z1 := dr_lt (ns := ns) (k := (n + 1 + 1 : Nat)) (lim := P) (by omega)
  generalize dr ns n 6 = tu at t1 x0 x1
  generalize dr ns ((n + 1 : Nat) : Int) (imx 1 ss.length) = at' at t2 y0 y1
  generalize dr ns ((n + 1 + 1 : Nat) : Int) P = pl at t3 z0 z1
  have hll : ss.length < 16777216 := by omega
  have hll2 : ss.length ≤ 16777216 := by omega
  have other : F_law_spoilt [rowD ns, .loc 0, (⟨P, ss⟩ : Nt).dat] (spot n :: T) = .ok (.tup [.int (imn 8 (P + 1)), .tup (ss.map St.dat)]) (spot (n + 1 + 1 + 1) :: T) → ∃ (N' : Nt) (n' : Nat), (∀ s ∈ N'.ss, StD s) ∧ N'.ss.length ≤ 11 ∧ ((⟨P, ss⟩ : Nt).Nm → N'.Nm) ∧ F_law_spoilt [rowD ns, .loc 0, (⟨P, ss⟩ : Nt).dat] (spot n :: T) = .ok N'.dat (spot n' :: T) :=
    fun h => ⟨⟨imn 8 (P + 1), ss⟩, n + 1 + 1 + 1, hsd, by show ss.length ≤ 11; omega, id, h⟩
  have a63 : at' < 9223372036854775808 := by unfold imx at y1; split at y1 <;> omega
  have a62 : -9223372036854775808 ≤ at' := by omega
  have hne : ∀ h : ss ≠ [], at' < ss.length := fun h => by
    have := List.length_pos_iff.mpr h
    unfold imx at y1
    split at y1 <;> omega
  by_cases c0 : tu = 0
  · subst c0
    by_cases he : ss = []
    · exact other (by subst he; simp at t2; simp [F_law_spoilt, b_law_spoilt, ev_run, Nt.dat, t1, t2, t3])
    · have hp := List.length_pos_iff.mpr he
      have hi := hne he
      have ix : ixN ss.length at' = some at'.toNat := ixN_nat y0 hi
      have hi2 : at'.toNat < ss.length := by omega
      exact ⟨⟨P, ss.eraseIdx at'.toNat⟩, n + 1 + 1 + 1, fun s hs => hsd s (List.mem_of_mem_eraseIdx hs), by
        show (ss.eraseIdx at'.toNat).length ≤ 11
        rw [List.length_eraseIdx_of_lt hi2]; omega, fun hn s hs => hn s (List.mem_of_mem_eraseIdx hs), by simp [F_law_spoilt, b_law_spoilt, ev_run, Nt.dat, t1, t2, t3, hp, ix, hi2, eraseIdx_map', a62, a63]⟩
  · by_cases c1 : tu = 1
    · subst c1
      by_cases he : ss = []
      · exact other (by subst he; simp at t2; simp [F_law_spoilt, b_law_spoilt, ev_run, Nt.dat, t1, t2, t3])
      · have hp := List.length_pos_iff.mpr he
        have hi := hne he
        have hi2 : at'.toNat < ss.length := by omega
        have ix : ixN ss.length at' = some at'.toNat := ixN_nat y0 hi
        obtain ⟨s, hs⟩ : ∃ s, s = ss[at'.toNat] := ⟨_, rfl⟩
        have hsm : s ∈ ss := by rw [hs]; exact List.getElem_mem _
        have e1 : atI (ss.map St.dat) at' = some s.dat := by
          rw [atI_nat y0 (by simpa using hi)]
          simp [hs]
        have os := hst s hsm
        have tg := fun S => toggled_s (S := S) (ns := s.outs) (p := pl) (os.ol (by omega))
        have tl := tog_len (ns := s.outs) (p := pl)
        have sl : ∀ m, oSl s.dat none (some 3) m = .ok (.tup [.str s.nm, s.kind, .tup (dInts s.ins)]) m := fun m => by
          unfold St.dat
          rw [ev_oSl_tup, cutL_take (by decide)]
          rfl
        have i3 : ∀ m, oIx s.dat (.int 3) m = .ok (.tup (dInts s.outs)) m := fun m => by simp [St.dat]
        have ed : (s.outs' (tog s.outs pl)).dat = .tup [.str s.nm, s.kind, .tup (dInts s.ins), .tup (dInts (tog s.outs pl))] := rfl
        have hO := os.ol (show P ≤ 28 by omega)
        have hI := os.il (show P ≤ 28 by omega)
        refine ⟨⟨P, ss.set at'.toNat (s.outs' (tog s.outs pl))⟩, n + 1 + 1 + 1, fun t ht => ?_, by show (ss.set _ _).length ≤ 11; simp; omega, fun hn t ht => ?_, ?_⟩
        · rcases mem_set' ht with rfl | ht
          · exact StD.mk (Dat_str.mpr (word_dat os.nm)) (fun k => isKind_dat os.kind) (by omega) (by omega)
          · exact hsd t ht
        · rcases mem_set' ht with rfl | ht
          · exact hn s hsm
          · exact hn t ht
        · simp [F_law_spoilt, b_law_spoilt, ev_run, Nt.dat, t1, t2, t3, hp, ix, e1, sl, i3, tg, hi2, ← set_map', ed]
    · by_cases c2 : tu = 2
      · subst c2
        by_cases he : ss = []
        · exact other (by subst he; simp at t2; simp [F_law_spoilt, b_law_spoilt, ev_run, Nt.dat, t1, t2, t3])
        · have hp := List.length_pos_iff.mpr he
          by_cases h1 : pl = 1
          · subst h1
            exact other (by simp [F_law_spoilt, b_law_spoilt, ev_run, Nt.dat, t1, t2, t3, hp])
          · have hi := hne he
            have hi2 : at'.toNat < ss.length := by omega
            have ix : ixN ss.length at' = some at'.toNat := ixN_nat y0 hi
            obtain ⟨s, hs⟩ : ∃ s, s = ss[at'.toNat] := ⟨_, rfl⟩
            have hsm : s ∈ ss := by rw [hs]; exact List.getElem_mem _
            have e1 : atI (ss.map St.dat) at' = some s.dat := by
              rw [atI_nat y0 (by simpa using hi)]
              simp [hs]
            have os := hst s hsm
            have tg := fun S => toggled_s (S := S) (ns := s.ins) (p := pl) (os.il (by omega))
            have tl := tog_len (ns := s.ins) (p := pl)
            have sl : ∀ m, oSl s.dat none (some 2) m = .ok (.tup [.str s.nm, s.kind]) m := fun m => by
              unfold St.dat
              rw [ev_oSl_tup, cutL_take (by decide)]
              rfl
            have sl2 : ∀ m, oSl s.dat (some 3) none m = .ok (.tup [.tup (dInts s.outs)]) m := fun m => by
              unfold St.dat
              rw [ev_oSl_tup, cutL_drop (by decide)]
              rfl
            have i2 : ∀ m, oIx s.dat (.int 2) m = .ok (.tup (dInts s.ins)) m := fun m => by simp [St.dat]
            have ed : (s.ins' (tog s.ins pl)).dat = .tup [.str s.nm, s.kind, .tup (dInts (tog s.ins pl)), .tup (dInts s.outs)] := rfl
            have hO := os.ol (show P ≤ 28 by omega)
            have hI := os.il (show P ≤ 28 by omega)
            refine ⟨⟨P, ss.set at'.toNat (s.ins' (tog s.ins pl))⟩, n + 1 + 1 + 1, fun t ht => ?_, by show (ss.set _ _).length ≤ 11; simp; omega, fun hn t ht => ?_, ?_⟩
            · rcases mem_set' ht with rfl | ht
              · exact StD.mk (Dat_str.mpr (word_dat os.nm)) (fun k => isKind_dat os.kind) (by omega) (by omega)
              · exact hsd t ht
            · rcases mem_set' ht with rfl | ht
              · exact hn s hsm
              · exact hn t ht
            · simp [F_law_spoilt, b_law_spoilt, ev_run, Nt.dat, t1, t2, t3, hp, ix, e1, sl, sl2, i2, tg, hi2, h1, ← set_map', ed]
      · by_cases c3 : tu = 3
        · subst c3
          by_cases hlt : (ss.length : Int) < 10
          · obtain ⟨kn, kr, n1, k1, f1⟩ := kind_s (T := T) h0 (n := n + 1 + 1 + 1)
            have ed : (zeroSt kn kr 0 pl).dat = .tup [.str "zero", .tup (.str kn :: kr), .tup [.int 0], .tup [.int pl]] := rfl
            refine ⟨⟨P, ss.take at'.toNat ++ [zeroSt kn kr 0 pl] ++ ss.drop at'.toNat⟩, n1, fun t ht => ?_, by simp; omega, fun hn t ht => ?_, ?_⟩
            · have ht : t ∈ ss.take at'.toNat ++ [zeroSt kn kr 0 pl] ++ ss.drop at'.toNat := ht
              rw [List.append_assoc] at ht
              rcases List.mem_append.mp ht with h | h
              · exact hsd t (List.mem_of_mem_take h)
              · rcases List.mem_cons.mp h with rfl | h
                · exact StD.mk (Dat_str.mpr (by decide +kernel)) k1.dat (by simp) (by simp)
                · exact hsd t (List.mem_of_mem_drop h)
            · have ht : t ∈ ss.take at'.toNat ++ [zeroSt kn kr 0 pl] ++ ss.drop at'.toNat := ht
              rw [List.append_assoc] at ht
              rcases List.mem_append.mp ht with h | h
              · exact hn t (List.mem_of_mem_take h)
              · rcases List.mem_cons.mp h with rfl | h
                · exact List.mem_cons_self ..
                · exact hn t (List.mem_of_mem_drop h)
            · simp [F_law_spoilt, b_law_spoilt, ev_run, Nt.dat, t1, t2, t3, hlt, f1, hll, y0, a63, ed]
          · exact other (by simp [F_law_spoilt, b_law_spoilt, ev_run, Nt.dat, t1, t2, t3, hlt])
        · by_cases c4 : tu = 4
          · subst c4
            by_cases hlt : (ss.length : Int) < 10
            · obtain ⟨kn, kr, n1, k1, f1⟩ := kind_s (T := T) h0 (n := n + 1 + 1 + 1)
              obtain ⟨q, hq⟩ : ∃ q : Int, q = if pl = 1 then 0 else imn pl (P - 1) := ⟨_, rfl⟩
              have ed : (zeroSt kn kr q 1).dat = .tup [.str "zero", .tup (.str kn :: kr), .tup [.int q], .tup [.int 1]] := rfl
              refine ⟨⟨P, ss ++ [zeroSt kn kr q 1]⟩, n1, fun t ht => ?_, by simp; omega, fun hn t ht => ?_, ?_⟩
              · rcases List.mem_append.mp ht with h | h
                · exact hsd t h
                · rw [List.mem_singleton.mp h]
                  exact StD.mk (Dat_str.mpr (by decide +kernel)) k1.dat (by simp) (by simp)
              · rcases List.mem_append.mp ht with h | h
                · exact hn t h
                · rw [List.mem_singleton.mp h]
                  exact List.mem_cons_self ..
              · by_cases h1 : pl = 1
                · rw [if_pos h1] at hq
                  subst hq h1
                  simp [F_law_spoilt, b_law_spoilt, ev_run, Nt.dat, t1, t2, t3, hlt, f1, hll, ed]
                · rw [if_neg h1] at hq
                  subst hq
                  simp [F_law_spoilt, b_law_spoilt, ev_run, Nt.dat, t1, t2, t3, hlt, f1, hll, ed, h1]
            · exact other (by simp [F_law_spoilt, b_law_spoilt, ev_run, Nt.dat, t1, t2, t3, hlt])
          · exact other (by simp [F_law_spoilt, b_law_spoilt, ev_run, Nt.dat, t1, t2, t3, c0, c1, c2, c3, c4])
end Wh

/-! _law_spoilt_net, _law_net -/
namespace Wh
open PySem PySem.Spec PyProof.Rows L2 Wd
variable {S T : Store} {d : D} {ds : List D}
theorem dats {N : Nt} (h : ∀ s ∈ N.ss, StD s) (hl : N.ss.length ≤ 1000) {k : Nat} : Dat (k + 6) N.dat := by
  refine ⟨by simp, fun d hd => ?_⟩
  simp at hd
  rcases hd with rfl | rfl
  · simp
  · refine ⟨by simp; omega, fun d hd => ?_⟩
    obtain ⟨s, hs, rfl⟩ := List.mem_map.mp hd
    exact h s hs k
theorem spoilt_net_s' {ns : List Int} (h0 : ns ≠ []) {N : Nt} (hN : N.Ok) {n : Nat} : ∃ (N' : Nt) (n' : Nat), N'.Ok ∧ (N.Nm → N'.Nm) ∧ F_law_spoilt_net [rowD ns, .loc 0, N.dat] (spot n :: T) = .ok N'.dat (spot n' :: T) := by
  obtain ⟨N1, n1, h1, h2, hn, e1⟩ := spoilt_s (T := T) h0 hN (n := n)
  have e2 := law_is_net_ok (S := spot n1 :: T) (dats h1 (by omega) (k := 0)) (by decide)
  cases h : isNet N1.dat with
  | true =>
    obtain ⟨N2, e3, hN2⟩ := isNet_iff.mp h
    have hn2 : N.Nm → N2.Nm := fun q s hs => by
      have e4 : N1.ss.map St.dat = N2.ss.map St.dat := by
        unfold Nt.dat at e3
        injection e3 with e3
        injection e3 with _ e3
        injection e3 with e3 _
        injection e3
      have e5 : N1.ss.map St.nm = N2.ss.map St.nm := by
        have := congrArg (List.map nameD) e4
        rwa [nameD_map, nameD_map] at this
      have h5 : s.nm ∈ N1.ss.map St.nm := by rw [e5]; exact List.mem_map.mpr ⟨s, hs, rfl⟩
      obtain ⟨t, ht, h6⟩ := List.mem_map.mp h5
      rw [← h6]
      exact hn q t ht
    rw [h, e3] at e2
    rw [e3] at e1
    exact ⟨N2, n1, hN2, hn2, by simp [F_law_spoilt_net, b_law_spoilt_net, ev_run, e1, e2]⟩
  | false =>
    rw [h] at e2
    exact ⟨N, n1, hN, id, by simp [F_law_spoilt_net, b_law_spoilt_net, ev_run, e1, e2]⟩
theorem spoilt_net_s {ns : List Int} (h0 : ns ≠ []) {N : Nt} (hN : N.Ok) {n : Nat} : ∃ (N' : Nt) (n' : Nat), N'.Ok ∧ F_law_spoilt_net [rowD ns, .loc 0, N.dat] (spot n :: T) = .ok N'.dat (spot n' :: T) := by
  obtain ⟨N', n', h, _, e⟩ := spoilt_net_s' (T := T) h0 hN (n := n)
  exact ⟨N', n', h, e⟩
theorem upto_succ {k : Nat} : upto (k + 1) = upto k ++ [(k : Int)] := by
  unfold upto
  rw [List.range_succ, List.map_append]
  rfl
/-- some of a range, as they are drawn -/
theorem some_s {vs : List Nat} {tg : Tg} {t : Ms → Res Bool} {f : Ms → Res D} {r : List Sl} {q : Int → Prop} {L : Nat} (hL : L ≤ 1000000)
    (h : ∀ (i n : Nat), i < L → ∃ n', (q i ∧ lcS vs tg t f (.int i) ⟨r, spot n :: T⟩ = .ok (some (.int i)) ⟨r, spot n' :: T⟩) ∨ lcS vs tg t f (.int i) ⟨r, spot n :: T⟩ = .ok none ⟨r, spot n' :: T⟩) (n : Nat) :
    ∃ (fs : List Int) (n' : Nat), fs.Sublist (upto L) ∧ (∀ x ∈ fs, q x) ∧ lcD vs tg t f (rgD 0 L) [] ⟨r, spot n :: T⟩ = .ok (dInts fs) ⟨r, spot n' :: T⟩ := by
  obtain ⟨acc, m', e1, fs, n', ea, em, hs, hq⟩ := lcD_st (vs := vs) (tg := tg) (t := t) (f := f) (enc := fun i : Nat => D.int (i : Int))
    (P := fun i acc m => ∃ (fs : List Int) (n' : Nat), acc = dInts fs ∧ m = ⟨r, spot n' :: T⟩ ∧ fs.Sublist (upto i) ∧ ∀ x ∈ fs, q x)
    (List.range L) 0 [] ⟨r, spot n :: T⟩
    (fun i x acc m hi ⟨fs, n', ea, em, hs, hq⟩ => by
      obtain ⟨hi1, hi2⟩ := List.getElem?_eq_some_iff.mp hi
      rw [List.getElem_range] at hi2
      subst hi2
      rw [List.length_range] at hi1
      rw [Nat.zero_add] at hs ⊢
      have hl : acc.length < 16777216 := by
        have := hs.length_le
        rw [upto_length] at this
        rw [ea, List.length_map]
        omega
      subst em
      obtain ⟨n2, h2⟩ := h i n' hi1
      rcases h2 with ⟨h2, e2⟩ | e2
      · refine ⟨_, .inl ⟨_, e2, hl, fs ++ [(i : Int)], n2, by simp [ea], rfl, ?_, fun x hx => ?_⟩⟩
        · rw [upto_succ]
          exact hs.append (List.Sublist.refl _)
        · rcases List.mem_append.mp hx with hx | hx
          · exact hq x hx
          · rw [List.mem_singleton.mp hx]; exact h2
      · refine ⟨_, .inr ⟨e2, fs, n2, ea, rfl, ?_, hq⟩⟩
        rw [upto_succ]
        exact hs.trans (List.sublist_append_left _ _))
    ⟨[], n, rfl, rfl, List.nil_sublist _, fun _ h => (nomatch h)⟩
  have er : rgD 0 (L : Int) = (List.range L).map fun i : Nat => D.int (i : Int) := by
    rw [rgD_upto]
    simp [upto]
  rw [← er] at e1
  rw [Nat.zero_add, List.length_range] at hs
  subst ea em
  exact ⟨fs, n', hs, hq, e1⟩
/-- a drawn side of a step -/
theorem side_s {ns : List Int} (h0 : ns ≠ []) {P : Nat} (hP : 2 ≤ P ∧ P ≤ 8) {side : Int} {n : Nat} {r2 r3 r4 r6 r9 r10 : Sl} {ps : List D} (hp : ps.length ≤ 10) (h9 : notOwn (some r9) = true) :
    ∃ (fs : List Int) (n' : Nat) (r9' : Sl), notOwn (some r9') = true ∧ below fs P = true ∧ fs ≠ [] ∧ (side ≠ 1 → (1 : Int) ∉ fs) ∧ lp_law_net_1 ⟨[.val (rowD ns), .val (.loc 0), r2, r3, r4, .val (.int P), r6, .own ps, .val (.int side), r9, r10, .un], spot n :: T⟩ =
      .next ⟨[.val (rowD ns), .val (.loc 0), r2, r3, r4, .val (.int P), r6, .own (ps ++ [.tup (dInts fs)]), .val (.int side), r9', r10, .un], spot n' :: T⟩ := by
  have ts : ∀ (lim : Int) (k : Nat) (T : Store), 0 < lim → F_law_take [rowD ns, .loc 0, .int lim] (spot k :: T) = .ok (.int (dr ns k lim)) (spot (k + 1) :: T) := fun lim k T h => take_s h0 h
  obtain ⟨fs, n', hs, hq, e1⟩ := some_s (T := T) (vs := [11]) (tg := tgN 11) (t := (tAndD (tOf (Wd.e2 (oEq false) (fCall F_law_take (aCons (eVar 0) (aCons (eVar 1) (aCons (eC (.int 3)) aNil)))) (eC (.int 0)))) (tOrD (tOf (Wd.e2 (oEq false) (eVar 8) (eC (.int 1)))) (tOf (Wd.e2 (oEq true) (eVar 11) (eC (.int 1))))))) (f := eVar 11)
    (r := [.val (rowD ns), .val (.loc 0), r2, r3, r4, .val (.int P), r6, .own ps, .val (.int side), r9, r10, .un]) (q := fun x => side ≠ 1 → x ≠ 1) (L := P) (by omega)
    (fun i k hi => by
      refine ⟨k + 1, ?_⟩
      have t := ts 3 k T (by decide)
      by_cases z : dr ns k 3 = 0
      · by_cases s1 : side = 1
        · subst s1
          exact .inl ⟨fun h => absurd rfl h, by simp [t, z]⟩
        · by_cases i1 : (i : Int) = 1
          · rw [i1]
            exact .inr (by simp [t, z, s1])
          · exact .inl ⟨fun _ => i1, by simp [t, z, s1, i1]⟩
      · exact .inr (by simp [t, z])) n
  obtain ⟨hb1, hb2⟩ := sub_upto hs
  have c1 : (P : Int) ≤ 1000000000 := by omega
  have c2 : -1000000000 ≤ (P : Int) := by omega
  have hp2 : ps.length < 16777216 := by omega
  have hfl : fs.length ≤ 16777216 := by
    have := hs.length_le
    rw [upto_length] at this
    omega
  by_cases hz : fs = []
  · subst hz
    refine ⟨[0], n', .val (.lst []), rfl, below_of (fun p hp => by simp at hp; subst hp; omega) (List.pairwise_singleton _ _), by simp, fun _ => by decide, ?_⟩
    simp only [List.map_nil] at e1
    simp [lp_law_net_1, e1, c1, c2, hp2]
  · have hz2 : 0 < fs.length := List.length_pos_iff.mpr hz
    exact ⟨fs, n', .val (.lst (dInts fs)), rfl, below_of hb1 hb2, hz, fun h h1 => hq 1 h1 h rfl, by simp [lp_law_net_1, e1, c1, c2, hp2, hz2]⟩
def nm8 : List Str := ["ask", "asks", "call", "draw", "eat", "fly", "grow", "hunt"]
theorem nm8_at {p : Int} (h0 : 0 ≤ p) (h1 : p < 8) : atI (nm8.map D.str) p = some (.str (nmAt p)) := by
  rw [atI_nat h0 (by simpa [nm8] using h1)]
  have h2 : p.toNat < nm8.length := by simp [nm8]; omega
  have h3 : p.toNat < nm10.length := by simp [nm10]; omega
  have h4 : nm8[p.toNat] = nm10[p.toNat] := by
    have : nm8 = nm10.take 8 := rfl
    simp [this]
  simp [nmAt, List.getD, h3, h4]
theorem names_nd8 {ps : List Int} (h : ps.Perm (upto 8)) : (ps.map nmAt).Nodup ∧ (∀ z ∈ ps.map nmAt, wordS z = true) ∧ ps.length = 8 := by
  have hm : ∀ p ∈ ps, 0 ≤ p ∧ p < 8 := fun p hp => by
    have := upto_mem.mp (h.mem_iff.mp hp)
    omega
  have hn : ps.Nodup := h.nodup_iff.mpr upto_nodup
  refine ⟨?_, fun z hz => ?_, by have := h.length_eq; simpa using this⟩
  · unfold List.Nodup at hn ⊢
    rw [List.pairwise_map]
    refine hn.imp_of_mem fun {a c} ha hc hne e => hne ?_
    have h1 := hm a ha
    have h2 := hm c hc
    exact nmAt_inj h1.1 (by omega) h2.1 (by omega) e
  · obtain ⟨p, hp, rfl⟩ := List.mem_map.mp hz
    have h1 := hm p hp
    exact nm10_word _ (nmAt_mem h1.1 (by omega))
end Wh

/-! _law_net -/
namespace Wh
open PySem PySem.Spec PyProof.Rows L2 Wd
variable {S T : Store} {d : D} {ds : List D}
/-- the state in the loop over the drawn steps -/
def nM (ns : List Int) (nms : List Str) (P : Nat) (ss : List St) (n : Nat) (T : Store) (j : Sl × Sl × Sl × Sl) : Ms :=
  ⟨[.val (rowD ns), .val (.loc 0), .un, j.1, .val (.lst (nms.map D.str)), .val (.int P), .own (ss.map St.dat), j.2.1, j.2.2.1, j.2.2.2, .un, .un], spot n :: T⟩
structure Drn (P : Int) (nms : List Str) (ss : List St) : Prop where
  ok : ∀ s ∈ ss, s.Ok P
  np : ∀ s ∈ ss, s.kn ≠ "plain"
  nm : ∀ i (h : i < ss.length), ss[i].nm = nms.getD i ""
theorem n_turn {ns : List Int} (h0 : ns ≠ []) {nms : List Str} (hn : nms.length = 8) (hw : ∀ z ∈ nms, wordS z = true) {P : Nat} (hP : 2 ≤ P ∧ P ≤ 8) {ss : List St} (I : Drn P nms ss) (hl : ss.length < 8) {n : Nat} {j : Sl × Sl × Sl × Sl} (h9 : notOwn (some j.2.2.2) = true) :
    ∃ (ss' : List St) (n' : Nat) (j' : Sl × Sl × Sl × Sl), Drn P nms ss' ∧ ss'.length = ss.length + 1 ∧ notOwn (some j'.2.2.2) = true ∧ forB lp_law_net_2 (tgN 3 (.int ss.length) (nM ns nms P ss n T j)) = .next (nM ns nms P ss' n' T j') := by
  obtain ⟨j3, j7, j8, j9⟩ := j
  have rg : rgD 0 2 = [.int 0, .int 1] := rfl
  obtain ⟨f1, n1, q1, hq1, b1, z1, o1, e1⟩ := side_s (T := T) h0 hP (side := 0) (n := n) (r2 := .un) (r3 := .val (.int ss.length)) (r4 := .val (.lst (nms.map D.str))) (r6 := .own (ss.map St.dat)) (r9 := j9) (r10 := .un) (ps := []) (by simp) h9
  obtain ⟨f2, n2, q2, hq2, b2, z2, o2, e2⟩ := side_s (T := T) h0 hP (side := 1) (n := n1) (r2 := .un) (r3 := .val (.int ss.length)) (r4 := .val (.lst (nms.map D.str))) (r6 := .own (ss.map St.dat)) (r9 := q1) (r10 := .un) (ps := [.tup (dInts f1)]) (by simp) hq1
  obtain ⟨kn, kr, n3, k1, e3⟩ := kind_s (T := T) h0 (n := n2)
  have e4 : atI (nms.map D.str) (ss.length : Int) = some (.str (nms.getD ss.length "")) := by
    have := atI_map (f := D.str) (dflt := "") (xs := nms) (i := ss.length) (by omega) (by omega)
    simpa using this
  have hz : wordS (nms.getD ss.length "") = true := hw _ (by
    have : ss.length < nms.length := by omega
    simp [List.getD, this])
  have hl2 : ss.length < 16777216 := by omega
  refine ⟨ss ++ [⟨nms.getD ss.length "", kn, kr, f1, f2⟩], n3, (.val (.int ss.length), .own [.tup (dInts f1), .tup (dInts f2)], .val (.int 1), q2), ⟨fun s hs => ?_, fun s hs => ?_, fun i hi => ?_⟩, by simp, hq2, ?_⟩
  · rcases List.mem_append.mp hs with h | h
    · exact I.ok s h
    · rw [List.mem_singleton.mp h]
      exact ⟨hz, k1.ok, b1, b2, z1, z2, o1 (by decide)⟩
  · rcases List.mem_append.mp hs with h | h
    · exact I.np s h
    · rw [List.mem_singleton.mp h]
      exact k1.np
  · by_cases h : i < ss.length
    · rw [List.getElem_append_left h]
      exact I.nm i h
    · have : i = ss.length := by simp at hi; omega
      subst this
      simp
  · generalize nms.getD ss.length "" = z at *
    simp only [List.nil_append] at e1
    simp [nM, lp_law_net_2, rg, ev_for_cons, e1, e2, e3, e4, hl2, St.dat, St.kind]
theorem n_loop {ns : List Int} (h0 : ns ≠ []) {nms : List Str} (hn : nms.length = 8) (hw : ∀ z ∈ nms, wordS z = true) {P : Nat} (hP : 2 ≤ P ∧ P ≤ 8) {k : Nat} (hk : k ≤ 8) {n : Nat} :
    ∃ (ss : List St) (n' : Nat) (j' : Sl × Sl × Sl × Sl), Drn P nms ss ∧ ss.length = k ∧ notOwn (some j'.2.2.2) = true ∧ forD (tgN 3) lp_law_net_2 (rgD 0 k) (nM ns nms P [] n T (.un, .un, .un, .un)) = .next (nM ns nms P ss n' T j') := by
  obtain ⟨m', e, ss, n', j', I, hl, h9, em⟩ := forD_inv (tg := tgN 3) (F := lp_law_net_2)
    (P := fun i m => ∃ (ss : List St) (n' : Nat) (j' : Sl × Sl × Sl × Sl), Drn P nms ss ∧ ss.length = i ∧ notOwn (some j'.2.2.2) = true ∧ m = nM ns nms P ss n' T j')
    (rgD 0 k) 0 (nM ns nms P [] n T (.un, .un, .un, .un))
    (fun i d m hi ⟨ss, n', j', I, hl, h9, em⟩ => by
      obtain ⟨rfl, hik⟩ := rgD_get hi
      subst em
      rw [Nat.zero_add] at hl
      obtain ⟨ss2, n2, j2, I2, hl2, h92, e⟩ := n_turn (T := T) h0 hn hw hP I (by omega) (n := n') h9
      refine ⟨_, .inl (by rw [show (0 : Int) + (i : Nat) = ss.length by omega]; exact e), ss2, n2, j2, I2, by omega, h92, rfl⟩)
    ⟨[], n, _, ⟨fun _ h => (nomatch h), fun _ h => (nomatch h), fun i h => by simp at h⟩, rfl, rfl, rfl⟩
  subst em
  exact ⟨ss, n', j', I, by simpa using hl, h9, e⟩
def St.choice (s : St) : St := ⟨s.nm, "choice", [], s.ins, s.outs⟩
theorem drn_ok {P : Int} {nms : List Str} {ss : List St} (I : Drn P nms ss) (hnd : nms.Nodup) (hl : ss.length ≤ nms.length) (h8 : nms.length ≤ 8) (hP : 2 ≤ P ∧ P ≤ 8) : (circ (ss.map St.stp) = false → (⟨P, ss⟩ : Nt).Ok) ∧ (⟨P, ss.map St.choice⟩ : Nt).Ok := by
  have nd : (ss.map St.nm).Nodup := by
    have : ss.map St.nm = nms.take ss.length := by
      refine List.ext_getElem (by simp; omega) fun i h1 h2 => ?_
      simp at h1
      have h3 : i < nms.length := by omega
      simp [I.nm i h1, List.getD, h3]
    rw [this]
    exact hnd.sublist (List.take_sublist _ _)
  refine ⟨fun hc => ⟨hP.1, hP.2, by show ss.length ≤ 10; omega, I.ok, nd, ?_, hc⟩, hP.1, hP.2, by simp; omega, fun s hs => ?_, ?_, ?_, ?_⟩
  · show law2 ss = false
    unfold law2
    rw [List.any_eq_false]
    intro s hs h
    obtain ⟨t, ht, h⟩ := List.any_eq_true.mp h
    simp only [lcl, Bool.and_eq_true, decide_eq_true_eq] at h
    exact I.np s hs h.1
  · obtain ⟨t, ht, rfl⟩ := List.mem_map.mp hs
    have h := I.ok t ht
    exact ⟨h.nm, rfl, h.ib, h.ob, h.i0, h.o0, h.i1⟩
  · show ((ss.map St.choice).map St.nm).Nodup
    rw [List.map_map]
    exact nd
  · show law2 (ss.map St.choice) = false
    unfold law2
    rw [List.any_eq_false]
    intro s hs h
    obtain ⟨t, ht, h⟩ := List.any_eq_true.mp h
    obtain ⟨u, hu, rfl⟩ := List.mem_map.mp hs
    simp only [lcl, Bool.and_eq_true, decide_eq_true_eq] at h
    exact absurd (show ("choice" : Str) = "plain" from h.1) (by decide)
  · show circ ((ss.map St.choice).map St.stp) = false
    refine circ_up (φ := fun x => x) fun s hs hl => ?_
    rw [List.map_map] at hs
    obtain ⟨t, ht, rfl⟩ := List.mem_map.mp hs
    exact absurd hl (by show ¬ loose (St.choice t).stp = true; simp [loose, St.stp, St.choice])
theorem n_choice {ss : List St} (hl : ss.length ≤ 10) {r0 r1 r2 r3 r4 r5 r6 r7 r8 r9 : Sl} :
    lcD [10] (tgN 10) tYesD (Wd.e2 oAdd (eTup (aCons (e2V oIx 10 (eC (.int 0))) (aCons (eTup (aCons (eC (.str "choice")) aNil)) aNil))) (eSl (eVar 10) (pSome (eC (.int 2))) pNone)) (ss.map St.dat) []
      ⟨[r0, r1, r2, r3, r4, r5, r6, r7, r8, r9, .un, .un], S⟩ = .ok ((ss.map St.choice).map St.dat) ⟨[r0, r1, r2, r3, r4, r5, r6, r7, r8, r9, .un, .un], S⟩ := by
  rw [List.map_map]
  refine lcD_of (enc := St.dat) (k := St.dat ∘ St.choice) ss (fun s _ => ?_) (by omega)
  have sl : cutL [D.str s.nm, .tup (.str s.kn :: s.kr), .tup (dInts s.ins), .tup (dInts s.outs)] (some 2) none = [.tup (dInts s.ins), .tup (dInts s.outs)] := by rw [cutL_drop (by decide)]; rfl
  simp [St.dat, St.kind, sl, St.choice]
theorem net_s' {ns : List Int} (h0 : ns ≠ []) {n : Nat} : ∃ (N : Nt) (n' : Nat), N.Ok ∧ N.Nm ∧ F_law_net [rowD ns, .loc 0] (spot n :: T) = .ok N.dat (spot n' :: T) := by
  have ts : ∀ (lim : Int) (k : Nat) (T : Store), 0 < lim → F_law_take [rowD ns, .loc 0, .int lim] (spot k :: T) = .ok (.int (dr ns k lim)) (spot (k + 1) :: T) := fun lim k T h => take_s h0 h
  have t0 := ts 7 n T (by decide)
  by_cases hz : dr ns n 7 = 0
  · have t1 := ts 5 (n + 1) T (by decide)
    have x0 := dr_nonneg (ns := ns) (k := (n + 1 : Nat)) (lim := 5) (by decide)
    have x1 := dr_lt (ns := ns) (k := (n + 1 : Nat)) (lim := 5) (by decide)
    generalize dr ns ((n + 1 : Nat) : Int) 5 = pv at t1 x0 x1
    obtain ⟨P, hP⟩ : ∃ P : Nat, 2 + pv = P := ⟨(2 + pv).toNat, by omega⟩
    have hP8 : 2 ≤ P ∧ P ≤ 8 := by omega
    obtain ⟨ps, n3, hps, e3⟩ := shuffled_s (T := T) h0 (many := 8) (n := n + 1 + 1) (by decide)
    rw [show ((8 : Nat) : Int) = 8 from rfl] at e3
    obtain ⟨hnd, hw, hpl⟩ := names_nd8 hps
    have hpl2 : ps.length ≤ 16777216 := by omega
    have e8 : ∀ S r2 r4 r7 r8 r9 r10 r11, lcD [3] (tgN 3) tYesD (Wd.e2 oIx (eNew (nLst (aCons (eC (.str "ask")) (aCons (eC (.str "asks")) (aCons (eC (.str "call")) (aCons (eC (.str "draw")) (aCons (eC (.str "eat")) (aCons (eC (.str "fly")) (aCons (eC (.str "grow")) (aCons (eC (.str "hunt")) aNil)))))))))) (eVar 3)) (dInts ps) []
        ⟨[.val (rowD ns), .val (.loc 0), r2, .un, r4, .val (.int P), .own [], r7, r8, r9, r10, r11], S⟩ = .ok ((ps.map nmAt).map D.str) ⟨[.val (rowD ns), .val (.loc 0), r2, .un, r4, .val (.int P), .own [], r7, r8, r9, r10, r11], S⟩ := fun S r2 r4 r7 r8 r9 r10 r11 => by
      rw [List.map_map]
      refine lcD_of (enc := D.int) (k := D.str ∘ nmAt) ps (fun p hp => ?_) (by omega)
      have h1 := upto_mem.mp (hps.mem_iff.mp hp)
      have h2 := nm8_at h1.1 (by omega)
      have h3 : nm8.map D.str = [.str "ask", .str "asks", .str "call", .str "draw", .str "eat", .str "fly", .str "grow", .str "hunt"] := rfl
      rw [h3] at h2
      simp [h2]
    have t4 := ts 8 n3 T (by decide)
    have y0 := dr_nonneg (ns := ns) (k := n3) (lim := 8) (by decide)
    have y1 := dr_lt (ns := ns) (k := n3) (lim := 8) (by decide)
    obtain ⟨k, hk⟩ : ∃ k : Nat, dr ns n3 8 = k := ⟨(dr ns n3 8).toNat, by omega⟩
    obtain ⟨ss, n5, ⟨j3, j7, j8, j9⟩, I, hl, h9, e5⟩ := n_loop (T := T) h0 (nms := ps.map nmAt) (by simpa using hpl) hw hP8 (k := k) (by omega) (n := n3 + 1)
    obtain ⟨w1, w2⟩ := drn_ok I hnd (by simp; omega) (by simp; omega) (by omega)
    have hr : ∀ e ∈ ss.map St.dat, StR e := fun e he => by
      obtain ⟨s, hs, rfl⟩ := List.mem_map.mp he
      exact (StH.self s).stR (I.ok s hs) (by omega)
    have e7 := law_is_round_ok (S := spot n5 :: T) (b := false) hr (by simp; omega)
    rw [steps_stp', sq_lst] at e7
    have b1 : -1000000000 ≤ (k : Int) := by omega
    have b2 : (k : Int) ≤ 1000000000 := by omega
    have b3 : ss.length ≤ 16777216 := by omega
    simp only [nM, List.map_nil] at e5
    have hnames : ∀ s ∈ ss, s.nm ∈ nm11 := fun s hs => by
      obtain ⟨i, hi, rfl⟩ := List.mem_iff_getElem.mp hs
      rw [I.nm i hi]
      have h2 : i < ps.length := by omega
      have h3 : (ps.map nmAt).getD i "" = nmAt ps[i] := by simp [List.getD, h2]
      rw [h3]
      have h4 := upto_mem.mp (hps.mem_iff.mp (List.getElem_mem h2))
      exact List.mem_cons_of_mem _ (nmAt_mem h4.1 (by omega))
    generalize hnm : (ps.map nmAt).map D.str = nmd at e8 e5
    cases hc : circ (ss.map St.stp) with
    | false =>
      rw [hc] at e7
      refine ⟨⟨P, ss⟩, n5, w1 hc, hnames, ?_⟩
      simp [F_law_net, b_law_net, ev_run, t0, hz, t1, hP, e3, hpl2, e8, t4, hk, b1, b2, e5, e7, Nt.dat]
    | true =>
      rw [hc] at e7
      refine ⟨⟨P, ss.map St.choice⟩, n5, w2, fun s hs => ?_, ?_⟩
      · obtain ⟨t, ht, rfl⟩ := List.mem_map.mp hs
        exact hnames t ht
      have e9 := fun r0 r1 r2 r3 r4 r5 r6 r7 r8 r9 S => n_choice (S := S) (by omega : ss.length ≤ 10) (r0 := r0) (r1 := r1) (r2 := r2) (r3 := r3) (r4 := r4) (r5 := r5) (r6 := r6) (r7 := r7) (r8 := r8) (r9 := r9)
      simp [F_law_net, b_law_net, ev_run, t0, hz, t1, hP, e3, hpl2, e8, t4, hk, b1, b2, b3, e5, e7, e9, Nt.dat]
  · obtain ⟨N, n1, hN, hnm, e1⟩ := sound_net_s' (T := T) h0 (n := n + 1)
    have t2 := ts 6 n1 T (by decide)
    obtain ⟨x, hx, e2⟩ := atI_any (xs := [.int 0, .int 0, .int 1, .int 1, .int 2, .int 3]) (dr_nonneg (ns := ns) (k := n1) (lim := 6) (by decide)) (dr_lt (ns := ns) (k := n1) (lim := 6) (by decide))
    obtain ⟨k, rfl, hk⟩ : ∃ k : Nat, x = .int k ∧ k ≤ 3 := by
      simp at hx
      rcases hx with rfl | rfl | rfl | rfl
      · exact ⟨0, rfl, by decide⟩
      · exact ⟨1, rfl, by decide⟩
      · exact ⟨2, rfl, by decide⟩
      · exact ⟨3, rfl, by decide⟩
    obtain ⟨m', e3, N', n', j3, hN', hnm', em⟩ := forD_inv (tg := tgN 3) (F := lp_law_net_3)
      (P := fun i m => ∃ (N' : Nt) (n' : Nat) (j3 : Sl), N'.Ok ∧ N'.Nm ∧ m = ⟨[.val (rowD ns), .val (.loc 0), .val N'.dat, j3, .un, .un, .un, .un, .un, .un, .un, .un], spot n' :: T⟩)
      (rgD 0 k) 0 ⟨[.val (rowD ns), .val (.loc 0), .val N.dat, .un, .un, .un, .un, .un, .un, .un, .un, .un], spot (n1 + 1) :: T⟩
      (fun i d m hi ⟨N', n', j3, hN', hnm', em⟩ => by
        subst em
        obtain ⟨N2, n2, hN2, hn2, e⟩ := spoilt_net_s' (T := T) h0 hN' (n := n')
        exact ⟨⟨[.val (rowD ns), .val (.loc 0), .val N2.dat, .val d, .un, .un, .un, .un, .un, .un, .un, .un], spot n2 :: T⟩, .inl (by simp [lp_law_net_3, e]), N2, n2, .val d, hN2, hn2 hnm', rfl⟩)
      ⟨N, n1 + 1, .un, hN, hnm, rfl⟩
    subst em
    have b1 : -1000000000 ≤ (k : Int) := by omega
    have b2 : (k : Int) ≤ 1000000000 := by omega
    exact ⟨N', n', hN', hnm', by simp [F_law_net, b_law_net, ev_run, t0, hz, e1, t2, e2, e3, b1, b2]⟩
theorem net_s {ns : List Int} (h0 : ns ≠ []) {n : Nat} : ∃ (N : Nt) (n' : Nat), N.Ok ∧ F_law_net [rowD ns, .loc 0] (spot n :: T) = .ok N.dat (spot n' :: T) := by
  obtain ⟨N, n', h, _, e⟩ := net_s' (T := T) h0 (n := n)
  exact ⟨N, n', h, e⟩
end Wh

/-! _law_so of a datum and itself; what is handed in and asked -/
namespace Wh
open PySem PySem.Spec PyProof.Rows L2 Wd
variable {S T : Store} {d e : D} {ds : List D}
theorem so_self : ∀ (k : Nat) (d : D), Dat k d → ∀ S, F_law_so (k + 1) [d, d] S = .ok (.bl true) S
  | k, .non, _, S => by rw [F_law_so]; simp [b_law_so, ev_run]
  | k, .bl _, _, S => by rw [F_law_so]; simp [b_law_so, ev_run]
  | k, .int _, _, S => by rw [F_law_so]; simp [b_law_so, ev_run]
  | k, .str _, _, S => by rw [F_law_so]; simp [b_law_so, ev_run]
  | 0, .tup _, h, S => h.elim
  | k + 1, .tup ds, ⟨h1, h2⟩, S => by
    by_cases hl : ds.length ≤ 1000000000
    · obtain ⟨m', e, r2, em⟩ := forD_inv (tg := tgN 2) (F := lp_law_so_1 (F_law_so (k + 1)))
        (P := fun i m => ∃ r2, m = ⟨[.val (.tup ds), .val (.tup ds), r2], S⟩) (rgD 0 ds.length) 0 ⟨[.val (.tup ds), .val (.tup ds), .un], S⟩
        (fun i d m hi ⟨r2, em⟩ => by
          obtain ⟨rfl, hik⟩ := rgD_get hi
          subst em
          have hi2 : i < ds.length := by omega
          have e1 := so_self k ds[i] (h2 _ (List.getElem_mem hi2)) S
          have e2 : atI ds (i : Int) = some ds[i] := by
            rw [atI_nat (by omega) (by omega)]
            simp
          exact ⟨⟨[.val (.tup ds), .val (.tup ds), .val (.int i)], S⟩, .inl (by simp [lp_law_so_1, e1, e2]), _, rfl⟩)
        ⟨_, rfl⟩
      subst em
      have b1 : -1000000000 ≤ (ds.length : Int) := by omega
      have b2 : (ds.length : Int) ≤ 1000000000 := by omega
      rw [F_law_so]
      simp [b_law_so, ev_run, b1, b2, e]
    · omega
  | k, .lst _, h, S => (Dat_lst h).elim
  | k, .ro _, h, S => (Dat_ro h).elim
  | k, .loc _, h, S => (Dat_loc h).elim
theorem so10 (h : Dat 9 d) : F_law_so 10 [d, d] S = .ok (.bl true) S := so_self 9 d h S
theorem Dat.elim {k : Nat} (h : Dat k d) : Tups k d := h.tups
theorem is_net_prog {k : Nat} (hd : Dat k d) (hh : Hand k d e) : F_is_net [e] S = .ok (.bl (isNet d)) S := by
  simp [F_is_net, b_is_net, ev_run, is_net_ok hd hh]
/-! lengths -/
def Lim (L : Nat) : Nat → D → Prop
  | k + 1, .tup ds => ds.length ≤ L ∧ ∀ d ∈ ds, Lim L k d
  | _, _ => True
theorem Lim_tup {L k : Nat} : Lim L (k + 1) (.tup ds) ↔ ds.length ≤ L ∧ ∀ d ∈ ds, Lim L k d := Iff.rfl
@[simp] theorem Lim_int {L k : Nat} {i : Int} : Lim L k (.int i) := by cases k <;> trivial
@[simp] theorem Lim_str {L k : Nat} {z : Str} : Lim L k (.str z) := by cases k <;> trivial
@[simp] theorem Lim_non {L k : Nat} : Lim L k .non := by cases k <;> trivial
@[simp] theorem Lim_bl {L k : Nat} {b : Bool} : Lim L k (.bl b) := by cases k <;> trivial
theorem Lim_ints {L k : Nat} {xs : List Int} (h : xs.length ≤ L) : Lim L k (.tup (dInts xs)) := by
  cases k with
  | zero => trivial
  | succ k => exact ⟨by simpa using h, fun d hd => by simp at hd; obtain ⟨a, _, rfl⟩ := hd; simp⟩
theorem isWord_lim {L k : Nat} (h : isWord d = true) : Lim L k d := by
  match d, h with
  | .str z, h => exact Lim_str
theorem isWithin_lim {L k : Nat} {lo hi : Int} (h : isWithin lo hi d = true) : Lim L k d := by
  obtain ⟨i, rfl, _⟩ := isWithin_iff.mp h
  exact Lim_int
theorem isCal_lim {k : Nat} (h : isCal d = true) : Lim 28 k d := by
  match d, h with
  | .non, _ => exact Lim_non
  | .tup [a, p], h =>
    have h : (isWithin 1 28 a && isPlaces (iOf a) p) = true := h
    rw [Bool.and_eq_true] at h
    obtain ⟨L, rfl, h1, h2⟩ := isWithin_iff.mp h.1
    cases k with
    | zero => trivial
    | succ k =>
      refine ⟨by simp, fun d hd => ?_⟩
      simp at hd
      rcases hd with rfl | rfl
      · simp
      · obtain ⟨ns, rfl, h3, _⟩ := isPlaces_iff.mp h.2
        exact Lim_ints (below_len h3 h2)
theorem isKind_lim {k : Nat} (h : isKind d = true) : Lim 28 k d := by
  obtain ⟨z, ds, rfl⟩ := isKind_iff h
  have h : kindRest z ds = true := h
  have key : ds.length ≤ 4 ∧ ∀ k, ∀ d ∈ ds, Lim 28 k d := by
    unfold kindRest at h
    split at h
    · have : ds = [] := by simpa using h
      subst this
      exact ⟨by simp, fun _ _ h => (nomatch h)⟩
    · split at h
      · match ds, h with
        | [w], h => exact ⟨by simp, fun k d hd => by rw [List.mem_singleton.mp hd]; exact isWord_lim h⟩
      · split at h
        · match ds, h with
          | [t, c], h =>
            have h : (isWithin 1 1000 t && isCal c) = true := h
            rw [Bool.and_eq_true] at h
            refine ⟨by simp, fun k d hd => ?_⟩
            simp at hd
            rcases hd with rfl | rfl
            · exact isWithin_lim h.1
            · exact isCal_lim h.2
        · split at h
          · match ds, h with
            | [w, t, l, u], h =>
              have h : (isWord w && (isWithin 1 5 t && (isWithin 1 1000 l && isUndo u))) = true := h
              simp only [Bool.and_eq_true] at h
              obtain ⟨h1, h2, h3, h4⟩ := h
              refine ⟨by simp, fun k d hd => ?_⟩
              simp at hd
              rcases hd with rfl | rfl | rfl | rfl
              · exact isWord_lim h1
              · exact isWithin_lim h2
              · exact isWithin_lim h3
              · unfold isUndo at h4
                rw [Bool.or_eq_true] at h4
                rcases h4 with h4 | h4
                · match d, h4 with
                  | .non, _ => exact Lim_non
                · exact isWord_lim h4
          · cases h
  cases k with
  | zero => trivial
  | succ k =>
    refine ⟨by simp; omega, fun d hd => ?_⟩
    rcases List.mem_cons.mp hd with rfl | hd
    · simp
    · exact key.2 k d hd
theorem Nt.Ok.lim {N : Nt} (h : N.Ok) {k : Nat} : Lim 28 (k + 3) N.dat := by
  refine ⟨by simp, fun d hd => ?_⟩
  simp at hd
  rcases hd with rfl | rfl
  · simp
  · have h1 := h.len
    have h2 := h.p8
    refine ⟨by simp; omega, fun d hd => ?_⟩
    obtain ⟨s, hs, rfl⟩ := List.mem_map.mp hd
    have o := h.st s hs
    refine ⟨by simp, fun d hd => ?_⟩
    simp at hd
    rcases hd with rfl | rfl | rfl | rfl
    · simp
    · exact isKind_lim o.kind
    · exact Lim_ints (o.il (by omega))
    · exact Lim_ints (o.ol (by omega))
end Wh

/-! taking steps: the program's and the law's own -/
namespace Wh
open PySem PySem.Spec PyProof.Rows L2 Wd
variable {S T : Store} {d e : D} {ds : List D} {m : Ms}
@[simp] theorem St_ix0 {s : St} : oIx s.dat (.int 0) m = .ok (.str s.nm) m := by simp [St.dat]
@[simp] theorem St_ix1 {s : St} : oIx s.dat (.int 1) m = .ok s.kind m := by simp [St.dat]
@[simp] theorem St_ix2 {s : St} : oIx s.dat (.int 2) m = .ok (.tup (dInts s.ins)) m := by simp [St.dat]
@[simp] theorem St_ix3 {s : St} : oIx s.dat (.int 3) m = .ok (.tup (dInts s.outs)) m := by simp [St.dat]
@[simp] theorem St_isN {s : St} {neg : Bool} : oIsN neg s.dat .non m = .ok (.bl neg) m := rfl
@[simp] theorem Nt_ix0 {N : Nt} : oIx N.dat (.int 0) m = .ok (.int N.pl) m := by simp [Nt.dat]
@[simp] theorem Nt_ix1 {N : Nt} : oIx N.dat (.int 1) m = .ok (.tup (N.ss.map St.dat)) m := by simp [Nt.dat]
/-- a marking as a datum -/
def mkD (mk : List Int) : D := .tup (dInts mk)
/-- steps that are not too long -/
structure Short (N : Nt) : Prop where
  len : N.ss.length ≤ 28
  il : ∀ s ∈ N.ss, s.ins.length ≤ 28
  ol : ∀ s ∈ N.ss, s.outs.length ≤ 28
theorem Nt.Ok.short {N : Nt} (h : N.Ok) : Short N := ⟨by have := h.len; omega, fun s hs => (h.st s hs).il (by have := h.p8; omega), fun s hs => (h.st s hs).ol (by have := h.p8; omega)⟩
def en (s : St) (mk : List Int) : Bool := s.ins.all fun x => decide (x ∈ mk)
def enS (N : Nt) (mk : List Int) : List St := N.ss.filter fun s => en s mk
theorem is_enabled_t {s : St} {mk : List Int} (h : s.ins.length ≤ 28) : F_is_enabled [s.dat, mkD mk] S = .ok (.bl (en s mk)) S := by
  have : s.ins.length ≤ 16777216 := by omega
  simp [F_is_enabled, b_is_enabled, ev_run, this, mkD, en]
theorem enabled_steps_t {N : Nt} {mk : List Int} (h : Short N) : F_enabled_steps [N.dat, mkD mk] S = .ok (.lst ((enS N mk).map St.dat)) S := by
  have hl := h.len
  have e1 : lcD [2] (tgN 2) (tOf (fCall F_is_enabled (aCons (eVar 2) (aCons (eVar 1) aNil)))) (eVar 2) (N.ss.map St.dat) [] ⟨[.val N.dat, .val (mkD mk), .un], S⟩ = .ok ((enS N mk).map St.dat) ⟨[.val N.dat, .val (mkD mk), .un], S⟩ :=
    lcD_if N.ss (fun s hs => by
      have := is_enabled_t (S := S) (mk := mk) (h.il s hs)
      cases hc : en s mk <;> simp [this, hc]) (by omega)
  simp [F_enabled_steps, b_enabled_steps, ev_run, e1]
theorem enL_iff {s : St} {mk : List Int} : decide ((s.ins.filter fun x => !decide (x ∈ mk)) = []) = en s mk := flt0
theorem law_enabled_t {N : Nt} {mk : List Int} (h : Short N) : F_law_enabled [N.dat, mkD mk] S = .ok (.lst ((enS N mk).map St.dat)) S := by
  have hl := h.len
  have e1 : lcD [2] (tgN 2) (tOf (Wd.e2 (oEq false) (e1 oLen (eNew (nLc (itE (e2V oIx 2 (eC (.int 2)))) [3] (tgN 3) (tOf (Wd.e2 (oIn true) (eVar 3) (eBor 1))) (eVar 3)))) (eC (.int 0)))) (eVar 2) (N.ss.map St.dat) [] ⟨[.val N.dat, .val (mkD mk), .un, .un], S⟩ = .ok ((enS N mk).map St.dat) ⟨[.val N.dat, .val (mkD mk), .un, .un], S⟩ :=
    lcD_if (enc := St.dat) (k := St.dat) (p := fun s => en s mk) N.ss (fun s hs => by
      have h1 := h.il s hs
      have h2 : s.ins.length ≤ 16777216 := by omega
      have h3 := enL_iff (s := s) (mk := mk)
      generalize hq : (s.ins.filter fun x => !decide (x ∈ mk)) = q at h3
      cases hc : en s mk with
      | true => rw [hc] at h3; have h4 : q = [] := of_decide_eq_true h3; subst h4; simp [mkD, h2, hc, hq]
      | false => rw [hc] at h3; have h4 : ¬ q = [] := of_decide_eq_false h3; simp [mkD, h2, hc, hq, h4]) (by omega)
  simp [F_law_enabled, b_law_enabled, ev_run, e1]
/-! taking -/
def leftOf (s : St) (mk : List Int) : List Int := mk.filter fun x => !decide (x ∈ s.ins)
def twiceOf (s : St) (mk : List Int) : List Int := s.outs.filter fun x => decide (x ∈ leftOf s mk)
def newOf (s : St) (mk : List Int) : List Int := sortSet (leftOf s mk ++ s.outs)
def optI : Option Int → D
  | none => .non
  | some i => .int i
def tkD (s : St) (mk : List Int) : Option Int := (twiceOf s mk).head?
theorem leftOf_len {s : St} {mk : List Int} : (leftOf s mk).length ≤ mk.length := List.length_filter_le ..
theorem taken_t {s : St} {mk : List Int} (hm : mk.length ≤ 28) (ho : s.outs.length ≤ 28) : F_taken [s.dat, mkD mk] S = .ok (.tup [mkD (newOf s mk), optI (tkD s mk)]) S := by
  have h1 : mk.length ≤ 16777216 := by omega
  have h2 : s.outs.length ≤ 16777216 := by omega
  have h3 := leftOf_len (s := s) (mk := mk)
  have h4 : (leftOf s mk).length + s.outs.length ≤ 16777216 := by omega
  have h5 : (leftOf s mk).length + s.outs.length < 64 := by omega
  have e1 : (dInts (leftOf s mk) ++ dInts s.outs) = dInts (leftOf s mk ++ s.outs) := by simp
  have e2 := fun m => ev_sortSet (m := m) (ns := leftOf s mk ++ s.outs)
  have el : (mk.filter fun x => !decide (x ∈ s.ins)) = leftOf s mk := rfl
  have et : (s.outs.filter fun x => decide (x ∈ leftOf s mk)) = twiceOf s mk := rfl
  have en : sortSet (leftOf s mk ++ s.outs) = newOf s mk := rfl
  simp only [List.map_append, List.length_append] at e2
  generalize leftOf s mk = left at *
  unfold tkD
  generalize twiceOf s mk = tw at *
  generalize newOf s mk = nw at *
  cases tw with
  | nil => simp [F_taken, b_taken, ev_run, mkD, h1, h2, el, et, h4, h5, e2, en, optI]
  | cons t tw => simp [F_taken, b_taken, ev_run, mkD, h1, h2, el, et, h4, h5, e2, en, optI]
/-- markings: rising -/
def Rise (mk : List Int) : Prop := mk.Pairwise (· < ·)
theorem mnL_rise {n : Int} {ns : List Int} (h : (n :: ns).Pairwise (· < ·)) : mnL n ns = n := by
  have h1 := (List.pairwise_cons.mp h).1
  unfold mnL
  clear h
  induction ns with
  | nil => rfl
  | cons a l ih =>
    have := h1 a (by simp)
    rw [List.foldl_cons, if_neg (by omega)]
    exact ih fun x hx => h1 x (by simp [hx])
theorem law_new {s : St} {mk : List Int} (hm : Rise mk) (ho : Rise s.outs) : sortI (leftOf s mk ++ s.outs.filter fun x => !decide (x ∈ leftOf s mk)) = newOf s mk := by
  refine sortSet_of ?_ fun k => ?_
  · have hn : (leftOf s mk ++ s.outs.filter fun x => !decide (x ∈ leftOf s mk)).Nodup := by
      rw [List.nodup_append]
      refine ⟨(lt_nodup hm).filter _, (lt_nodup ho).filter _, fun a ha b hb e => ?_⟩
      subst e
      have := (List.mem_filter.mp hb).2
      simp [ha] at this
    have h2 := ((sortI_perm _).nodup_iff).mpr hn
    have h1 := sortI_le (leftOf s mk ++ s.outs.filter fun x => !decide (x ∈ leftOf s mk))
    refine List.pairwise_iff_getElem.mpr fun i j hi hj hij => ?_
    have a := List.pairwise_iff_getElem.mp h1 i j hi hj hij
    have b := List.pairwise_iff_getElem.mp h2 i j hi hj hij
    omega
  · rw [(sortI_perm _).mem_iff, List.mem_append, List.mem_append, List.mem_filter]
    by_cases h : k ∈ leftOf s mk <;> simp [h]
theorem law_taken_t {s : St} {mk : List Int} (hm : mk.length ≤ 28) (ho : s.outs.length ≤ 28) (rm : Rise mk) (ro : Rise s.outs) : F_law_taken [mkD mk, s.dat] S = .ok (.tup [mkD (newOf s mk), optI (tkD s mk)]) S := by
  have h1 : mk.length ≤ 16777216 := by omega
  have h2 : s.outs.length ≤ 16777216 := by omega
  have h3 := leftOf_len (s := s) (mk := mk)
  have h6 := List.length_filter_le (fun x => !decide (x ∈ leftOf s mk)) s.outs
  have h4 : (leftOf s mk).length + (s.outs.filter fun x => !decide (x ∈ leftOf s mk)).length ≤ 16777216 := by omega
  have en := law_new rm ro
  have e2 := fun m => ev_sortI (m := m) (ns := leftOf s mk ++ s.outs.filter fun x => !decide (x ∈ leftOf s mk))
  have el : (mk.filter fun x => !decide (x ∈ s.ins)) = leftOf s mk := rfl
  have et : (s.outs.filter fun x => decide (x ∈ leftOf s mk)) = twiceOf s mk := rfl
  have rt : (twiceOf s mk).Pairwise (· < ·) := ro.filter _
  rw [en] at e2
  simp only [List.map_append] at e2
  generalize leftOf s mk = left at *
  unfold tkD
  generalize twiceOf s mk = tw at *
  generalize newOf s mk = nw at *
  generalize hq : (s.outs.filter fun x => !decide (x ∈ left)) = q at *
  cases tw with
  | nil => simp [F_law_taken, b_law_taken, ev_run, mkD, h1, h2, el, et, hq, h4, e2, optI]
  | cons t tw =>
    have e3 := fun m => ev_minL (m := m) (n := t) (ns := tw)
    rw [mnL_rise rt] at e3
    simp only [List.map_cons] at e3
    simp [F_law_taken, b_law_taken, ev_run, mkD, h1, h2, el, et, hq, h4, e2, e3, optI]
end Wh

/-! steps by name; runs -/
namespace Wh
open PySem PySem.Spec PyProof.Rows L2 Wd
variable {S T : Store} {d e : D} {ds : List D} {m : Ms}
def findS (N : Nt) (z : Str) : Option St := N.ss.find? fun s => decide (s.nm = z)
def optS : Option St → D
  | none => .non
  | some s => s.dat
theorem findS_some {N : Nt} {z : Str} {s : St} (h : findS N z = some s) : s ∈ N.ss ∧ s.nm = z := ⟨List.mem_of_find?_eq_some h, by simpa using List.find?_some h⟩
theorem step_of_t {N : Nt} {z : Str} : F_step_of [N.dat, .str z] S = .ok (optS (findS N z)) S := by
  rcases forD_lk (tg := tgN 2) (F := lp_step_of_1) (enc := St.dat) (st := fun r2 : Sl => ⟨[.val N.dat, .val (.str z), r2], S⟩) (p := fun s => decide (s.nm = z)) (k := St.dat) N.ss
    (fun s hs r2 => by
      by_cases h : s.nm = z
      · rw [if_pos (by simpa using h)]
        exact ⟨⟨[.val N.dat, .val (.str z), .val s.dat], S⟩, by simp [lp_step_of_1, h], rfl⟩
      · rw [if_neg (by simpa using h)]
        exact ⟨.val s.dat, by simp [lp_step_of_1, h], rfl⟩) .un with ⟨r2, e1, _, e2⟩ | ⟨s, m', e2, e1, e3⟩
  · have : findS N z = none := e2
    simp [F_step_of, b_step_of, ev_run, e1, this, optS]
  · have : findS N z = some s := e2
    simp [F_step_of, b_step_of, ev_run, e1, e3, this, optS]
theorem law_step_t {N : Nt} {z : Str} : F_law_step [N.dat, .str z] S = .ok (optS (findS N z)) S := by
  rcases forD_lk (tg := tgN 2) (F := lp_law_step_1) (enc := St.dat) (st := fun r2 : Sl => ⟨[.val N.dat, .val (.str z), r2], S⟩) (p := fun s => decide (s.nm = z)) (k := St.dat) N.ss
    (fun s hs r2 => by
      by_cases h : s.nm = z
      · rw [if_pos (by simpa using h)]
        exact ⟨⟨[.val N.dat, .val (.str z), .val s.dat], S⟩, by simp [lp_law_step_1, h], rfl⟩
      · rw [if_neg (by simpa using h)]
        exact ⟨.val s.dat, by simp [lp_law_step_1, h], rfl⟩) .un with ⟨r2, e1, _, e2⟩ | ⟨s, m', e2, e1, e3⟩
  · have : findS N z = none := e2
    simp [F_law_step, b_law_step, ev_run, e1, this, optS]
  · have : findS N z = some s := e2
    simp [F_law_step, b_law_step, ev_run, e1, e3, this, optS]
def namesL (N : Nt) : List Str := N.ss.map St.nm
theorem law_names_t {N : Nt} (h : Short N) : F_law_names [N.dat] S = .ok (.lst ((namesL N).map D.str)) S := by
  have hl := h.len
  have hl2 : N.ss.length ≤ 16777216 := by omega
  simp [F_law_names, b_law_names, ev_run, hl2, namesL]
theorem names_of_t {N : Nt} (h : Short N) : F_names_of [N.dat] S = .ok (.tup ((namesL N).map D.str)) S := by
  have hl := h.len
  have hl2 : N.ss.length ≤ 16777216 := by omega
  simp [F_names_of, b_names_of, ev_run, hl2, namesL]
/-! markings -/
def MkOk (N : Nt) (mk : List Int) : Prop := below mk N.pl = true
theorem MkOk.rise {N : Nt} {mk : List Int} (h : MkOk N mk) : Rise mk := below_pair h
theorem MkOk.len {N : Nt} {mk : List Int} (h : MkOk N mk) (hN : N.Ok) : mk.length ≤ 28 := below_len h (by have := hN.p8; omega)
theorem mk_start {N : Nt} (hN : N.Ok) : MkOk N [0] := below_of (fun p hp => by simp at hp; subst hp; have := hN.p2; omega) (List.pairwise_singleton _ _)
theorem St.Ok.ro {P : Int} {s : St} (h : s.Ok P) : Rise s.outs := below_pair h.ob
theorem MkOk.new {N : Nt} {mk : List Int} {s : St} (h : MkOk N mk) (hN : N.Ok) (hs : s ∈ N.ss) : MkOk N (newOf s mk) := by
  refine below_of (fun p hp => ?_) sortSet_lt
  have hp := sortSet_mem.mp hp
  rcases List.mem_append.mp hp with q | q
  · exact below_mem h (List.mem_filter.mp q).1
  · exact below_mem (hN.st s hs).ob q
def stepN (N : Nt) (mk : List Int) (z : Str) : Option (List Int) :=
  match findS N z with
  | none => none
  | some s => if en s mk = true then (match tkD s mk with
    | none => some (newOf s mk)
    | some _ => none) else none
def runN (N : Nt) : List Int → List Str → Nat → List Int × Nat
  | mk, [], k => (mk, k)
  | mk, z :: zs, k => match stepN N mk z with
    | none => (mk, k)
    | some mk' => runN N mk' zs (k + 1)
theorem runN_le (N : Nt) : ∀ (zs : List Str) (mk : List Int) (k : Nat), k ≤ (runN N mk zs k).2 ∧ (runN N mk zs k).2 ≤ k + zs.length
  | [], mk, k => by simp [runN]
  | z :: zs, mk, k => by
    unfold runN
    cases stepN N mk z with
    | none => simp
    | some mk' =>
      have := runN_le N zs mk' (k + 1)
      simp only [List.length_cons]
      omega
theorem stepN_ok {N : Nt} {mk mk' : List Int} {z : Str} (h : MkOk N mk) (hN : N.Ok) (e : stepN N mk z = some mk') : MkOk N mk' := by
  unfold stepN at e
  cases hf : findS N z with
  | none => rw [hf] at e; cases e
  | some s =>
    rw [hf] at e
    simp only at e
    split at e
    · split at e
      · cases e; exact h.new hN (findS_some hf).1
      · cases e
    · cases e
theorem runN_ok {N : Nt} (hN : N.Ok) : ∀ (zs : List Str) (mk : List Int) (k : Nat), MkOk N mk → MkOk N (runN N mk zs k).1
  | [], mk, k, h => h
  | z :: zs, mk, k, h => by
    unfold runN
    cases e : stepN N mk z with
    | none => exact h
    | some mk' => exact runN_ok hN zs mk' (k + 1) (stepN_ok h hN e)
/-- one name of a run: what the program does -/
theorem after_some {N : Nt} (hN : N.Ok) {mk mk' : List Int} (h : MkOk N mk) {z : Str} (e : stepN N mk z = some mk') {k : Int} {r1 r3 r4 r5 r6 r7 : Sl} :
    ∃ r5' r6' r7', forB lp_after_names_1 (tgT [tgN 3, tgN 4] (.tup [.int k, .str z]) ⟨[.val N.dat, r1, .val (mkD mk), r3, r4, r5, r6, r7], S⟩) = .next ⟨[.val N.dat, r1, .val (mkD mk'), .val (.int k), .val (.str z), r5', r6', r7'], S⟩ := by
  have e1 := fun S => step_of_t (N := N) (z := z) (S := S)
  unfold stepN at e
  cases hf : findS N z with
  | none => rw [hf] at e; cases e
  | some s =>
    rw [hf] at e1 e
    obtain ⟨hs, _⟩ := findS_some hf
    have os := hN.st s hs
    have hP := hN.p8
    have e2 := fun S => is_enabled_t (S := S) (mk := mk) (os.il (by omega))
    have e3 := fun S => taken_t (S := S) (h.len hN) (os.ol (by omega))
    simp only at e
    cases hc : en s mk with
    | false => rw [hc] at e; cases e
    | true =>
      rw [hc] at e2 e
      cases ht : tkD s mk with
      | none =>
        rw [ht] at e3 e
        simp only [if_true, Option.some.injEq] at e
        subst e
        exact ⟨.val s.dat, .val (mkD (newOf s mk)), .val .non, by simp [lp_after_names_1, e1, optS, e2, e3, optI]⟩
      | some p => rw [ht] at e; cases e
theorem after_none {N : Nt} (hN : N.Ok) {mk : List Int} (h : MkOk N mk) {z : Str} (e : stepN N mk z = none) {k : Int} {r1 r3 r4 r5 r6 r7 : Sl} :
    ∃ m', m'.S = S ∧ forB lp_after_names_1 (tgT [tgN 3, tgN 4] (.tup [.int k, .str z]) ⟨[.val N.dat, r1, .val (mkD mk), r3, r4, r5, r6, r7], S⟩) = .ret (.tup [mkD mk, .int k]) m' := by
  have e1 := fun S => step_of_t (N := N) (z := z) (S := S)
  unfold stepN at e
  cases hf : findS N z with
  | none =>
    rw [hf] at e1
    exact ⟨⟨[.val N.dat, r1, .val (mkD mk), .val (.int k), .val (.str z), .val .non, r6, r7], S⟩, rfl, by simp [lp_after_names_1, e1, optS]⟩
  | some s =>
    rw [hf] at e1 e
    obtain ⟨hs, _⟩ := findS_some hf
    have os := hN.st s hs
    have hP := hN.p8
    have e2 := fun S => is_enabled_t (S := S) (mk := mk) (os.il (by omega))
    have e3 := fun S => taken_t (S := S) (h.len hN) (os.ol (by omega))
    simp only at e
    cases hc : en s mk with
    | false =>
      rw [hc] at e2
      exact ⟨⟨[.val N.dat, r1, .val (mkD mk), .val (.int k), .val (.str z), .val s.dat, r6, r7], S⟩, rfl, by simp [lp_after_names_1, e1, optS, e2]⟩
    | true =>
      rw [hc] at e2 e
      cases ht : tkD s mk with
      | none => rw [ht] at e; cases e
      | some p =>
        rw [ht] at e3
        exact ⟨⟨[.val N.dat, r1, .val (mkD mk), .val (.int k), .val (.str z), .val s.dat, .val (mkD (newOf s mk)), .val (.int p)], S⟩, rfl, by simp [lp_after_names_1, e1, optS, e2, e3, optI]⟩
theorem runN_none {N : Nt} {mk : List Int} {z : Str} {zs : List Str} {k : Nat} (e : stepN N mk z = none) : runN N mk (z :: zs) k = (mk, k) := by
  rw [runN, e]
theorem runN_some {N : Nt} {mk mk' : List Int} {z : Str} {zs : List Str} {k : Nat} (e : stepN N mk z = some mk') : runN N mk (z :: zs) k = runN N mk' zs (k + 1) := by
  rw [runN, e]
theorem after_loop {N : Nt} (hN : N.Ok) {r1 : Sl} : ∀ (zs : List Str) (mk : List Int) (k : Nat) (r3 r4 r5 r6 r7 : Sl), MkOk N mk →
    ((runN N mk zs k).2 = k + zs.length ∧ ∃ q3 q4 q5 q6 q7, forD (tgT [tgN 3, tgN 4]) lp_after_names_1 (enL k (zs.map D.str)) ⟨[.val N.dat, r1, .val (mkD mk), r3, r4, r5, r6, r7], S⟩ = .next ⟨[.val N.dat, r1, .val (mkD (runN N mk zs k).1), q3, q4, q5, q6, q7], S⟩) ∨
    ((runN N mk zs k).2 < k + zs.length ∧ ∃ m', m'.S = S ∧ forD (tgT [tgN 3, tgN 4]) lp_after_names_1 (enL k (zs.map D.str)) ⟨[.val N.dat, r1, .val (mkD mk), r3, r4, r5, r6, r7], S⟩ = .ret (.tup [mkD (runN N mk zs k).1, .int (runN N mk zs k).2]) m')
  | [], mk, k, r3, r4, r5, r6, r7, h => .inl ⟨by simp [runN], r3, r4, r5, r6, r7, rfl⟩
  | z :: zs, mk, k, r3, r4, r5, r6, r7, h => by
    rw [List.map_cons, enL_cons, ev_for_cons]
    cases e : stepN N mk z with
    | none =>
      obtain ⟨m', h1, h2⟩ := after_none (S := S) hN h e (k := k) (r1 := r1) (r3 := r3) (r4 := r4) (r5 := r5) (r6 := r6) (r7 := r7)
      rw [runN_none e]
      exact .inr ⟨by simp, m', h1, by rw [h2]; rfl⟩
    | some mk' =>
      obtain ⟨a5, a6, a7, h2⟩ := after_some (S := S) hN h e (k := k) (r1 := r1) (r3 := r3) (r4 := r4) (r5 := r5) (r6 := r6) (r7 := r7)
      rw [h2, runN_some e]
      rcases after_loop hN zs mk' (k + 1) (.val (.int k)) (.val (.str z)) a5 a6 a7 (stepN_ok h hN e) (r1 := r1) with ⟨g1, g2⟩ | ⟨g1, g2⟩
      · exact .inl ⟨by simp only [List.length_cons]; omega, g2⟩
      · exact .inr ⟨by simp only [List.length_cons]; omega, g2⟩
theorem after_names_t {N : Nt} (hN : N.Ok) {zs : List Str} {b : Bool} : F_after_names [N.dat, sq b (zs.map D.str)] S = .ok (.tup [mkD (runN N [0] zs 0).1, .int (runN N [0] zs 0).2]) S := by
  have hs : mkD [0] = .tup [.int 0] := rfl
  rcases after_loop (S := S) hN zs [0] 0 .un .un .un .un .un (mk_start hN) (r1 := .val (sq b (zs.map D.str))) with ⟨h1, r3, r4, r5, r6, r7, e⟩ | ⟨h1, m', h2, e⟩
  · rw [Nat.zero_add] at h1
    rw [h1]
    generalize runN N [0] zs 0 = r at *
    rw [hs] at e
    simp [F_after_names, b_after_names, ev_run, e]
  · generalize runN N [0] zs 0 = r at *
    rw [hs] at e
    simp [F_after_names, b_after_names, ev_run, e, h2]
end Wh

/-! the law's runs; drawn runs; nets and names checked -/
namespace Wh
open PySem PySem.Spec PyProof.Rows L2 Wd
variable {S T : Store} {d e : D} {ds : List D} {m : Ms}
theorem okEq_lst {k : Nat} (h : ∀ d ∈ ds, Dat k d) (hk : k ≤ 60) : okEq (.lst ds) = true := by
  have key : ∀ ds : List D, (∀ d ∈ ds, Dat k d) → PyData.canLayAll0 (pys ds) = true ∧ PyData.depthAll (pys ds) ≤ k := by
    intro ds
    induction ds with
    | nil => intro _; simp [pys, PyData.canLayAll0, PyData.depthAll]
    | cons d ds ih =>
      intro h
      have h1 := (h d (by simp)).lay
      have h2 := ih fun e he => h e (by simp [he])
      simp [pys, PyData.canLayAll0, PyData.depthAll, h1.1, h2.1]
      exact Nat.max_le.mpr ⟨h1.2, h2.2⟩
  have := key ds h
  unfold Wd.okEq SeqAt.shaped
  rw [py]
  simp [PyData.canLay0, PyData.depth, this.1]
  omega
theorem nd_eq {N : Nt} (hN : N.Ok) {s t : St} (hs : s ∈ N.ss) (ht : t ∈ N.ss) (e : t.nm = s.nm) : t = s := by
  obtain ⟨i, hi, rfl⟩ := List.mem_iff_getElem.mp hs
  obtain ⟨j, hj, rfl⟩ := List.mem_iff_getElem.mp ht
  have := (List.getElem_inj (xs := N.ss.map St.nm) (h₀ := by simpa using hj) (h₁ := by simpa using hi) hN.nd).mp (by simpa using e)
  subst this
  rfl
theorem std_of {N : Nt} (hN : N.Ok) {s : St} (hs : s ∈ N.ss) : StD s := (hN.st s hs).std (by have := hN.p8; omega)
theorem inDD_steps {N : Nt} (hN : N.Ok) {s : St} (hs : s ∈ N.ss) {q : St → Bool} : inDD s.dat ((N.ss.filter q).map St.dat) = q s := by
  unfold inDD
  rw [List.any_map, Bool.eq_iff_iff, List.any_eq_true]
  constructor
  · rintro ⟨t, ht, h⟩
    obtain ⟨h1, h2⟩ := List.mem_filter.mp ht
    have h3 := dat_eq (s := s) (t := t) (fun e => nd_eq hN hs h1 e) (eqD_self (std_of hN hs 0))
    simp only [Function.comp, h3, decide_eq_true_eq] at h
    rw [nd_eq hN hs h1 h] at h2
    exact h2
  · intro h
    exact ⟨s, List.mem_filter.mpr ⟨hs, h⟩, eqD_self (std_of hN hs 0)⟩
theorem in_steps {N : Nt} (hN : N.Ok) {s : St} (hs : s ∈ N.ss) {q : St → Bool} {neg : Bool} : oIn neg s.dat (.lst ((N.ss.filter q).map St.dat)) m = .ok (.bl (if neg then !q s else q s)) m := by
  have h1 : okEq s.dat = true := (std_of hN hs 0).okEq (by decide)
  have h2 : okEq (.lst ((N.ss.filter q).map St.dat)) = true := okEq_lst (k := 4) (fun d hd => by
    obtain ⟨t, ht, rfl⟩ := List.mem_map.mp hd
    exact std_of hN (List.mem_filter.mp ht).1 0) (by decide)
  have h3 := inDD_steps hN hs (q := q)
  have h4 : flatD s.dat = false := rfl
  rw [ev_in_lst, if_neg (fun h => by rw [h4] at h; exact nomatch h.1), if_pos ⟨h1, h2⟩, h3]
/-! the law's runs -/
theorem lfits_some {N : Nt} (hN : N.Ok) {mk mk' : List Int} (h : MkOk N mk) {b : Bool} {zs : List Str} {k : Nat} (hk : k < zs.length) (e : stepN N mk zs[k] = some mk') {r3 r4 r5 : Sl} :
    ∃ r4' r5', forB lp_law_fits_1 (tgN 3 (.int k) ⟨[.val N.dat, .val (sq b (zs.map D.str)), .val (mkD mk), r3, r4, r5], S⟩) = .next ⟨[.val N.dat, .val (sq b (zs.map D.str)), .val (mkD mk'), .val (.int k), r4', r5'], S⟩ := by
  have ia : atI (zs.map D.str) (k : Int) = some (.str zs[k]) := by
    rw [atI_nat (by omega) (by simpa using hk)]
    simp
  generalize zs[k] = z at *
  have e1 := fun S => law_step_t (N := N) (z := z) (S := S)
  have e4 := fun S => law_enabled_t (mk := mk) (S := S) hN.short
  unfold stepN at e
  cases hf : findS N z with
  | none => rw [hf] at e; cases e
  | some s =>
    rw [hf] at e1 e
    obtain ⟨hs, _⟩ := findS_some hf
    have os := hN.st s hs
    have hP := hN.p8
    have e2 := fun m => in_steps hN hs (q := fun s => en s mk) (neg := true) (m := m)
    have e3 := fun S => law_taken_t (S := S) (h.len hN) (os.ol (by omega)) h.rise os.ro
    have ee : enS N mk = N.ss.filter fun s => en s mk := rfl
    rw [ee] at e4
    generalize (N.ss.filter fun s => en s mk).map St.dat = L at *
    simp only at e
    cases hc : en s mk with
    | false => rw [hc] at e; cases e
    | true =>
      rw [hc] at e2 e
      cases ht : tkD s mk with
      | none =>
        rw [ht] at e3 e
        simp only [if_true, Option.some.injEq] at e
        subst e
        exact ⟨.val s.dat, .val .non, by simp [lp_law_fits_1, ia, e1, optS, e4, e2, e3, optI, -ev_in_lst]⟩
      | some p => rw [ht] at e; cases e
theorem lfits_none {N : Nt} (hN : N.Ok) {mk : List Int} (h : MkOk N mk) {b : Bool} {zs : List Str} {k : Nat} (hk : k < zs.length) (e : stepN N mk zs[k] = none) {r3 r4 r5 : Sl} :
    ∃ m', m'.S = S ∧ forB lp_law_fits_1 (tgN 3 (.int k) ⟨[.val N.dat, .val (sq b (zs.map D.str)), .val (mkD mk), r3, r4, r5], S⟩) = .ret (.tup [.int k, .non]) m' := by
  have ia : atI (zs.map D.str) (k : Int) = some (.str zs[k]) := by
    rw [atI_nat (by omega) (by simpa using hk)]
    simp
  generalize zs[k] = z at *
  have e1 := fun S => law_step_t (N := N) (z := z) (S := S)
  have e4 := fun S => law_enabled_t (mk := mk) (S := S) hN.short
  unfold stepN at e
  cases hf : findS N z with
  | none =>
    rw [hf] at e1
    exact ⟨⟨[.val N.dat, .val (sq b (zs.map D.str)), .val (mkD mk), .val (.int k), .val .non, r5], S⟩, rfl, by simp [lp_law_fits_1, ia, e1, optS]⟩
  | some s =>
    rw [hf] at e1 e
    obtain ⟨hs, _⟩ := findS_some hf
    have os := hN.st s hs
    have hP := hN.p8
    have e2 := fun m => in_steps hN hs (q := fun s => en s mk) (neg := true) (m := m)
    have e3 := fun S => law_taken_t (S := S) (h.len hN) (os.ol (by omega)) h.rise os.ro
    have ee : enS N mk = N.ss.filter fun s => en s mk := rfl
    rw [ee] at e4
    generalize (N.ss.filter fun s => en s mk).map St.dat = L at *
    simp only at e
    cases hc : en s mk with
    | false =>
      rw [hc] at e2
      exact ⟨⟨[.val N.dat, .val (sq b (zs.map D.str)), .val (mkD mk), .val (.int k), .val s.dat, r5], S⟩, rfl, by simp [lp_law_fits_1, ia, e1, optS, e4, e2, -ev_in_lst]⟩
    | true =>
      rw [hc] at e2 e
      cases ht : tkD s mk with
      | none => rw [ht] at e; cases e
      | some p =>
        rw [ht] at e3
        exact ⟨⟨[.val N.dat, .val (sq b (zs.map D.str)), .val (mkD (newOf s mk)), .val (.int k), .val s.dat, .val (.int p)], S⟩, rfl, by simp [lp_law_fits_1, ia, e1, optS, e4, e2, e3, optI, -ev_in_lst]⟩
theorem lfits_loop {N : Nt} (hN : N.Ok) {b : Bool} {zs : List Str} : ∀ (n k : Nat) (mk : List Int) (r3 r4 r5 : Sl), MkOk N mk → k + n = zs.length →
    ((runN N mk (zs.drop k) k).2 = zs.length ∧ ∃ q3 q4 q5, forD (tgN 3) lp_law_fits_1 ((List.range' k n).map fun i : Nat => D.int i) ⟨[.val N.dat, .val (sq b (zs.map D.str)), .val (mkD mk), r3, r4, r5], S⟩ = .next ⟨[.val N.dat, .val (sq b (zs.map D.str)), .val (mkD (runN N mk (zs.drop k) k).1), q3, q4, q5], S⟩) ∨
    ((runN N mk (zs.drop k) k).2 < zs.length ∧ ∃ m', m'.S = S ∧ forD (tgN 3) lp_law_fits_1 ((List.range' k n).map fun i : Nat => D.int i) ⟨[.val N.dat, .val (sq b (zs.map D.str)), .val (mkD mk), r3, r4, r5], S⟩ = .ret (.tup [.int (runN N mk (zs.drop k) k).2, .non]) m')
  | 0, k, mk, r3, r4, r5, h, hk => by
    have : zs.drop k = [] := List.drop_of_length_le (by omega)
    rw [this]
    exact .inl ⟨by simp [runN]; omega, r3, r4, r5, rfl⟩
  | n + 1, k, mk, r3, r4, r5, h, hk => by
    have hlt : k < zs.length := by omega
    have er : List.range' k (n + 1) = k :: List.range' (k + 1) n := rfl
    rw [er, List.map_cons, ev_for_cons, List.drop_eq_getElem_cons hlt]
    cases e : stepN N mk zs[k] with
    | none =>
      obtain ⟨m', h1, h2⟩ := lfits_none (S := S) hN h (b := b) hlt e (r3 := r3) (r4 := r4) (r5 := r5)
      rw [runN_none e]
      exact .inr ⟨hlt, m', h1, by rw [h2]; rfl⟩
    | some mk' =>
      obtain ⟨a4, a5, h2⟩ := lfits_some (S := S) hN h (b := b) hlt e (r3 := r3) (r4 := r4) (r5 := r5)
      rw [h2, runN_some e]
      exact lfits_loop hN n (k + 1) mk' (.val (.int k)) a4 a5 (stepN_ok h hN e) (by omega)
/-- the law's answer about a run -/
def fitsL (N : Nt) (zs : List Str) : D := if (runN N [0] zs 0).2 = zs.length then .tup [.non, mkD (runN N [0] zs 0).1] else .tup [.int (runN N [0] zs 0).2, .non]
theorem law_fits_t {N : Nt} (hN : N.Ok) {b : Bool} {zs : List Str} (hl : zs.length ≤ 1000000) : F_law_fits [N.dat, sq b (zs.map D.str)] S = .ok (fitsL N zs) S := by
  have hs : mkD [0] = .tup [.int 0] := rfl
  have er : rgD 0 (zs.length : Int) = (List.range' 0 zs.length).map fun i : Nat => D.int i := by
    rw [rgD_upto, ← List.range_eq_range']
    simp [upto]
  have b1 : -1000000000 ≤ (zs.length : Int) := by omega
  have b2 : (zs.length : Int) ≤ 1000000000 := by omega
  rcases lfits_loop (S := S) hN (b := b) (zs := zs) zs.length 0 [0] .un .un .un (mk_start hN) (by omega) with ⟨h1, r3, r4, r5, e⟩ | ⟨h1, m', h2, e⟩
  · rw [List.drop_zero, ← er] at e
    rw [List.drop_zero] at h1
    unfold fitsL
    rw [if_pos h1]
    generalize runN N [0] zs 0 = r at *
    rw [hs] at e
    simp [F_law_fits, b_law_fits, ev_run, b1, b2, e]
  · rw [List.drop_zero, ← er] at e
    rw [List.drop_zero] at h1
    unfold fitsL
    rw [if_neg (by omega)]
    generalize runN N [0] zs 0 = r at *
    rw [hs] at e
    simp [F_law_fits, b_law_fits, ev_run, b1, b2, e, h2]
/-! drawn runs -/
theorem drawn_run_s {ns : List Int} (h0 : ns ≠ []) {N : Nt} (hN : N.Ok) {many n : Nat} (hm : many ≤ 1000) : ∃ (zs : List Str) (mk : List Int) (n' : Nat), zs.length ≤ many ∧ (∀ z ∈ zs, z ∈ namesL N) ∧ MkOk N mk ∧ runN N [0] zs 0 = (mk, zs.length) ∧
    F_law_drawn_run [rowD ns, .loc 0, N.dat, .int many] (spot n :: T) = .ok (.tup [.tup (zs.map D.str), mkD mk]) (spot n' :: T) := by
  have hs0 : mkD [0] = .tup [.int 0] := rfl
  have hP := hN.p8
  have app : ∀ (zs : List Str) (mk mk' : List Int) (k : Nat) (z : Str) (mk2 : List Int), runN N mk zs k = (mk', k + zs.length) → stepN N mk' z = some mk2 → runN N mk (zs ++ [z]) k = (mk2, k + zs.length + 1) := by
    intro zs
    induction zs with
    | nil =>
      intro mk mk' k z mk2 h1 h2
      simp [runN] at h1
      subst h1
      simp [runN, h2]
    | cons y zs ih =>
      intro mk mk' k z mk2 h1 h2
      rw [List.cons_append]
      unfold runN at h1 ⊢
      cases e : stepN N mk y with
      | none => rw [e] at h1; simp at h1
      | some mk3 =>
        rw [e] at h1
        have h1 : runN N mk3 zs (k + 1) = (mk', k + (zs.length + 1)) := h1
        have := ih mk3 mk' (k + 1) z mk2 (by rw [h1]; congr 1; omega) h2
        simp only [List.length_cons]
        rw [this]
        congr 1
        omega
  let P : Nat → Ms → Prop := fun i m => ∃ (zs : List Str) (mk : List Int) (n' : Nat) (r6 r7 r8 : Sl), notOwn (some r8) = true ∧ zs.length ≤ i ∧ (∀ z ∈ zs, z ∈ namesL N) ∧ MkOk N mk ∧ runN N [0] zs 0 = (mk, zs.length) ∧ m = ⟨[.val (rowD ns), .val (.loc 0), .val N.dat, .val (.int many), .val (mkD mk), .own (zs.map D.str), r6, r7, r8], spot n' :: T⟩
  obtain ⟨m', e, h⟩ := forD_brk (tg := tgN 6) (F := lp_law_drawn_run_1) (P := P) (Q := fun m => ∃ i, i ≤ many ∧ P i m)
    (rgD 0 many) 0 ⟨[.val (rowD ns), .val (.loc 0), .val N.dat, .val (.int many), .val (mkD [0]), .own [], .un, .un, .un], spot n :: T⟩
    (fun i d m hi ⟨zs, mk, n', r6, r7, r8, h8, hl, hz, hmk, hr, em⟩ => by
      obtain ⟨rfl, hik⟩ := rgD_get hi
      subst em
      rw [Nat.zero_add] at hl ⊢
      have e1 := law_enabled_t (mk := mk) (S := spot n' :: T) hN.short
      obtain ⟨fr, hfr⟩ : ∃ fr, fr = (enS N mk).filter fun s => (tkD s mk).isNone := ⟨_, rfl⟩
      have hel : (enS N mk).length ≤ 16777216 := by
        have := hN.len
        have h2 := List.length_filter_le (fun s => en s mk) N.ss
        unfold enS
        omega
      have e2 : ∀ r6 r7, lcD [8] (tgN 8) (tOf (Wd.e2 (oIsN false) (Wd.e2 oIx (fCall F_law_taken (aCons (eVar 4) (aCons (eVar 8) aNil))) (eC (.int 1))) (eC .non))) (eVar 8) ((enS N mk).map St.dat) [] ⟨[.val (rowD ns), .val (.loc 0), .val N.dat, .val (.int many), .val (mkD mk), .own (zs.map D.str), r6, r7, .un], spot n' :: T⟩ =
          .ok (fr.map St.dat) ⟨[.val (rowD ns), .val (.loc 0), .val N.dat, .val (.int many), .val (mkD mk), .own (zs.map D.str), r6, r7, .un], spot n' :: T⟩ := fun r6 r7 => by
        rw [hfr]
        refine lcD_if (enc := St.dat) (k := St.dat) (p := fun s => (tkD s mk).isNone) (enS N mk) (fun s hs => ?_) hel
        have hs2 := (List.mem_filter.mp hs).1
        have os := hN.st s hs2
        have e3 := law_taken_t (S := spot n' :: T) (hmk.len hN) (os.ol (by omega)) hmk.rise os.ro
        cases ht : tkD s mk with
        | none => rw [ht] at e3; simp [e3, optI]
        | some p => rw [ht] at e3; simp [e3, optI]
      by_cases hf : fr = []
      · subst hf
        exact .inr ⟨⟨[.val (rowD ns), .val (.loc 0), .val N.dat, .val (.int many), .val (mkD mk), .own (zs.map D.str), .val (.int i), .val (.lst []), r8], spot n' :: T⟩, by simp only [List.map_nil] at e2; simp [lp_law_drawn_run_1, e1, e2, h8], i, by omega, zs, mk, n', _, _, _, h8, hl, hz, hmk, hr, rfl⟩
      · have hf2 : ¬ (fr.length : Int) = 0 := fun z => hf (List.length_eq_zero_iff.mp (by omega))
        obtain ⟨x, hx, ep⟩ := pick_s (T := T) h0 (n := n') (ds := fr.map St.dat) (by simpa using hf)
        obtain ⟨s, hs, rfl⟩ := List.mem_map.mp hx
        rw [hfr] at hs
        obtain ⟨hs1, hs2⟩ := List.mem_filter.mp hs
        obtain ⟨hs3, hs4⟩ := List.mem_filter.mp hs1
        have os := hN.st s hs3
        have e3 := law_taken_t (S := spot (n' + 1) :: T) (hmk.len hN) (os.ol (by omega)) hmk.rise os.ro
        have hzl : zs.length < 16777216 := by omega
        have hst : stepN N mk s.nm = some (newOf s mk) := by
          unfold stepN
          have hfs : findS N s.nm = some s := by
            cases hq : findS N s.nm with
            | none =>
              have := List.find?_eq_none.mp hq s hs3
              simp at this
            | some t =>
              obtain ⟨h1, h2⟩ := findS_some hq
              rw [nd_eq hN hs3 h1 h2]
          rw [hfs]
          simp only [hs4, if_true]
          cases ht : tkD s mk with
          | none => rfl
          | some p => rw [ht] at hs2; cases hs2
        refine .inl ⟨⟨[.val (rowD ns), .val (.loc 0), .val N.dat, .val (.int many), .val (mkD (newOf s mk)), .own ((zs ++ [s.nm]).map D.str), .val (.int i), .val (.lst (fr.map St.dat)), .val s.dat], spot (n' + 1) :: T⟩, .inl ?_, zs ++ [s.nm], newOf s mk, n' + 1, _, _, _, rfl, by simp; omega, fun z hz' => ?_, hmk.new hN hs3, ?_, rfl⟩
        · simp [lp_law_drawn_run_1, e1, e2, h8, hf, hf2, ep, e3, hzl]
        · rcases List.mem_append.mp hz' with h | h
          · exact hz z h
          · rw [List.mem_singleton.mp h]
            exact List.mem_map.mpr ⟨s, hs3, rfl⟩
        · have := app zs [0] mk 0 s.nm (newOf s mk) (by rw [hr]; congr 1; omega) hst
          rw [this]
          congr 1
          simp)
    ⟨[], [0], n, .un, .un, .un, rfl, by simp, fun _ h => (nomatch h), mk_start hN, rfl, rfl⟩
  have h : ∃ i, i ≤ many ∧ P i m' := by
    rcases h with h | h
    · exact ⟨_, by rw [rgD_length]; omega, h⟩
    · exact h
  obtain ⟨i, hi, zs, mk, n', r6, r7, r8, h8, hl, hz, hmk, hr, em⟩ := h
  subst em
  have b1 : -1000000000 ≤ (many : Int) := by omega
  have b2 : (many : Int) ≤ 1000000000 := by omega
  have b3 : zs.length ≤ 16777216 := by omega
  rw [hs0] at e
  exact ⟨zs, mk, n', by omega, hz, hmk, hr, by simp [F_law_drawn_run, b_law_drawn_run, ev_run, b1, b2, e, b3]⟩
/-! nets and names checked -/
theorem checked_net_t {N : Nt} (hN : N.Ok) {a : Int} (hh : Hand 9 N.dat e) : F_checked_net [e, .int a] S = .ok N.dat S := by
  have hd : Dat 9 N.dat := hN.dat (k := 3)
  have e1 := is_net_ok (S := S) hd hh
  rw [isNet_iff.mpr ⟨N, rfl, hN⟩] at e1
  have e2 := frozen_ok (S := S) 9 e (hh.ok hd.tups.ok)
  rw [hh.fz] at e2
  simp [F_checked_net, b_checked_net, ev_run, e1, e2]
theorem hands_strs {k : Nat} {zs : List Str} {es : List D} (h : Hands k (zs.map D.str) es) : es = zs.map D.str := by
  refine List.ext_getElem (by simpa using h.1) fun i hi hj => ?_
  have := h.2 i (by simpa using hj) hi
  simp at this
  simp [this]
theorem hand_strs {k : Nat} {zs : List Str} (h : Hand (k + 1) (.tup (zs.map D.str)) e) : ∃ b, e = sq b (zs.map D.str) := by
  obtain ⟨b, es, rfl, hl, hi⟩ := h.tup
  exact ⟨b, by rw [hands_strs ⟨hl, hi⟩]⟩
theorem checked_names_t {zs : List Str} {b : Bool} (hz : ∀ z ∈ zs, wordS z = true) (hl : zs.length ≤ 16777216) : F_checked_names [sq b (zs.map D.str)] S = .ok .non S := by
  have e1 : lcD [1] (tgN 1) tYesD (fCall F_is_word (aCons (eVar 1) aNil)) (zs.map D.str) [] ⟨[.val (sq b (zs.map D.str)), .un], S⟩ = .ok (zs.map fun _ => .bl true) ⟨[.val (sq b (zs.map D.str)), .un], S⟩ :=
    lcD_of (enc := D.str) (k := fun _ => .bl true) zs (fun z h => by
      have h1 := is_word_str (S := S) (word_dat (hz z h)).1
      rw [hz z h] at h1
      simp [h1]) hl
  have e2 : ∀ m, oAll (zs.map fun _ => D.bl true) m = .ok (.bl true) m := fun m => by
    rw [ev_all_mapA (k := fun _ => true)]
    congr 2
    simp
  simp [F_checked_names, b_checked_names, ev_run, is_sequence_sq, e1, e2, -ev_all_mapA]
theorem fits_t {N : Nt} (hN : N.Ok) (hh : Hand 9 N.dat d) {zs : List Str} {b : Bool} (hz : ∀ z ∈ zs, wordS z = true) (hl : zs.length ≤ 16777216) :
    F_fits [d, sq b (zs.map D.str)] S = .ok (if (runN N [0] zs 0).2 = zs.length then .non else .int (runN N [0] zs 0).2) S := by
  have e1 := fun S => checked_net_t (S := S) hN (a := 0) hh
  have e2 := fun S => checked_names_t (S := S) (b := b) hz hl
  have e3 := fun S => after_names_t (S := S) hN (b := b) (zs := zs)
  generalize runN N [0] zs 0 = r at *
  by_cases h : r.2 = zs.length
  · simp [F_fits, b_fits, ev_run, e1, e2, e3, h]
  · have h2 : ¬ (r.2 : Int) = zs.length := by omega
    simp [F_fits, b_fits, ev_run, e1, e2, e3, h, h2]
end Wh

/-! enabled, after: what the program answers -/
namespace Wh
open PySem PySem.Spec PyProof.Rows L2 Wd
variable {S T : Store} {d e : D} {ds : List D} {m : Ms}
/-- a loop up to an item -/
theorem forD_fst {γ β : Type} {enc : γ → D} {tg : Tg} {F : Ms → SR} {st : β → Ms} {x : γ} {post : List γ} : ∀ (pre : List γ), (∀ y ∈ pre, ∀ b, ∃ b', forB F (tg (enc y) (st b)) = .next (st b')) → ∀ b, ∃ b', forD tg F ((pre ++ x :: post).map enc) (st b) = forK tg F (post.map enc) (forB F (tg (enc x) (st b')))
  | [], _, b => ⟨b, by rw [List.nil_append, List.map_cons, ev_for_cons]⟩
  | y :: pre, h, b => by
    obtain ⟨b1, e1⟩ := h y (by simp) b
    obtain ⟨b2, e2⟩ := forD_fst pre (fun z hz => h z (by simp [hz])) b1
    exact ⟨b2, by rw [List.cons_append, List.map_cons, ev_for_cons, e1]; exact e2⟩
theorem find_split {γ : Type} {p : γ → Bool} : ∀ {xs : List γ} {x : γ}, xs.find? p = some x → ∃ pre post, xs = pre ++ x :: post ∧ ∀ y ∈ pre, p y = false
  | [], _, h => by cases h
  | y :: xs, x, h => by
    cases hy : p y with
    | true =>
      rw [List.find?_cons_of_pos hy] at h
      cases h
      exact ⟨[], xs, rfl, fun _ h => nomatch h⟩
    | false =>
      rw [List.find?_cons_of_neg (by simp [hy])] at h
      obtain ⟨pre, post, e, hp⟩ := find_split h
      exact ⟨y :: pre, post, by rw [e]; rfl, fun z hz => by
        rcases List.mem_cons.mp hz with rfl | hz
        · exact hy
        · exact hp z hz⟩
/-! markings handed in -/
theorem mkD_dat {mk : List Int} (hl : mk.length ≤ 16777216) {k : Nat} : Dat (k + 1) (mkD mk) := by
  refine ⟨by simpa using hl, fun d hd => ?_⟩
  simp at hd
  obtain ⟨a, _, rfl⟩ := hd
  simp
theorem checked_marking_t {N : Nt} {mk : List Int} (h : MkOk N mk) (hN : N.Ok) {a : Int} (hh : Hand 9 (mkD mk) e) : F_checked_marking [N.dat, e, .int a] S = .ok (mkD mk) S := by
  have hl := h.len hN
  have hd : Dat 9 (mkD mk) := mkD_dat (by omega) (k := 8)
  have e1 := are_below_ok (S := S) (many := N.pl) hd hh
  have hb : isBelow N.pl (mkD mk) = true := isBelow_iff.mpr ⟨mk, rfl, h⟩
  rw [hb] at e1
  have e2 := frozen_ok (S := S) 9 e (hh.ok hd.tups.ok)
  rw [hh.fz] at e2
  simp [F_checked_marking, b_checked_marking, F_is_marking, b_is_marking, ev_run, e1, e2]
theorem checked_marking_bad {N : Nt} {k : Nat} (hd : Dat k d) (hh : Hand k d e) (hb : isBelow N.pl d = false) {a : Int} : F_checked_marking [N.dat, e, .int a] S = .exc ⟨"BadValue", [("at", .int a)]⟩ S := by
  have e1 := are_below_ok (S := S) (many := N.pl) hd hh
  rw [hb] at e1
  simp [F_checked_marking, b_checked_marking, F_is_marking, b_is_marking, ev_run, e1]
theorem enabled_t {N : Nt} {mk : List Int} (h : MkOk N mk) (hN : N.Ok) (hh : Hand 9 N.dat d) (hm : Hand 9 (mkD mk) e) : F_enabled [d, e] S = .ok (.tup (((enS N mk).map St.nm).map D.str)) S := by
  have e1 := fun S => checked_net_t (S := S) hN (a := 0) hh
  have e2 := fun S => checked_marking_t (S := S) h hN (a := 1) hm
  have e3 := fun S => enabled_steps_t (S := S) (mk := mk) hN.short
  have hl : (enS N mk).length ≤ 16777216 := by
    have := hN.len
    have h2 := List.length_filter_le (fun s => en s mk) N.ss
    unfold enS
    omega
  generalize enS N mk = L at *
  simp [F_enabled, b_enabled, ev_run, e1, e2, e3, hl]
theorem enabled_bad {N : Nt} (hN : N.Ok) (hh : Hand 9 N.dat d) {k : Nat} {x : D} (hd : Dat k x) (hx : Hand k x e) (hb : isBelow N.pl x = false) : F_enabled [d, e] S = .exc ⟨"BadValue", [("at", .int 1)]⟩ S := by
  have e1 := fun S => checked_net_t (S := S) hN (a := 0) hh
  have e2 := fun S => checked_marking_bad (S := S) (N := N) hd hx hb (a := 1)
  simp [F_enabled, b_enabled, ev_run, e1, e2]
/-- what after answers -/
def afterR (N : Nt) (mk : List Int) (z : Str) (S : Store) : FR :=
  match (enS N mk).find? fun s => decide (s.nm = z) with
  | none => .exc ⟨"BadValue", [("at", .int 2)]⟩ S
  | some s => match tkD s mk with
    | none => .ok (mkD (newOf s mk)) S
    | some p => .exc ⟨"Doubled", [("place", .int p)]⟩ S
theorem after_t {N : Nt} {mk : List Int} (h : MkOk N mk) (hN : N.Ok) (hh : Hand 9 N.dat d) (hm : Hand 9 (mkD mk) e) {z : Str} : F_after [d, e, .str z] S = afterR N mk z S := by
  have e1 := fun S => checked_net_t (S := S) hN (a := 0) hh
  have e2 := fun S => checked_marking_t (S := S) h hN (a := 1) hm
  have e3 := fun S => enabled_steps_t (S := S) (mk := mk) hN.short
  have hP := hN.p8
  have miss : ∀ (s : St) (r5 r6 r7 : Sl), s.nm ≠ z → forB lp_after_1 (tgN 5 s.dat ⟨[.val d, .val e, .val (.str z), .val N.dat, .val (mkD mk), r5, r6, r7], S⟩) = .next ⟨[.val d, .val e, .val (.str z), .val N.dat, .val (mkD mk), .val s.dat, r6, r7], S⟩ := fun s r5 r6 r7 hne => by
    simp [lp_after_1, hne]
  unfold afterR
  cases hf : (enS N mk).find? fun s => decide (s.nm = z) with
  | none =>
    have hall : ∀ s ∈ enS N mk, s.nm ≠ z := fun s hs => by
      have := List.find?_eq_none.mp hf s hs
      simpa using this
    rcases forD_lk (tg := tgN 5) (F := lp_after_1) (enc := St.dat) (st := fun r5 : Sl => ⟨[.val d, .val e, .val (.str z), .val N.dat, .val (mkD mk), r5, .un, .un], S⟩) (p := fun _ => false) (k := fun _ => .non) (enS N mk)
      (fun s hs r5 => ⟨.val s.dat, miss s r5 .un .un (hall s hs), rfl⟩) .un with ⟨r5, g1, _, _⟩ | ⟨x, m', g1, _⟩
    · generalize (enS N mk).map St.dat = L at *
      simp [F_after, b_after, ev_run, e1, e2, e3, g1]
    · have := List.find?_some g1
      cases this
  | some s =>
    obtain ⟨pre, post, es, hpre⟩ := find_split hf
    have hs : s ∈ enS N mk := List.mem_of_find?_eq_some hf
    have hnm : s.nm = z := by simpa using List.find?_some hf
    have hs2 := (List.mem_filter.mp hs).1
    have os := hN.st s hs2
    have e4 := fun S => taken_t (S := S) (h.len hN) (os.ol (by omega))
    obtain ⟨r5, g1⟩ := forD_fst (tg := tgN 5) (F := lp_after_1) (enc := St.dat) (st := fun r5 : Sl => ⟨[.val d, .val e, .val (.str z), .val N.dat, .val (mkD mk), r5, .un, .un], S⟩) (x := s) (post := post) pre
      (fun y hy r5 => ⟨.val y.dat, miss y r5 .un .un (by simpa using hpre y hy)⟩) .un
    rw [← es] at g1
    generalize (enS N mk).map St.dat = L at *
    cases ht : tkD s mk with
    | none =>
      rw [ht] at e4
      have g2 : forB lp_after_1 (tgN 5 s.dat ⟨[.val d, .val e, .val (.str z), .val N.dat, .val (mkD mk), r5, .un, .un], S⟩) = .ret (mkD (newOf s mk)) ⟨[.val d, .val e, .val (.str z), .val N.dat, .val (mkD mk), .val s.dat, .val (mkD (newOf s mk)), .val .non], S⟩ := by
        simp [lp_after_1, hnm, e4, optI]
      rw [g2] at g1
      simp at g1
      simp [F_after, b_after, ev_run, e1, e2, e3, g1, ht]
    | some p =>
      rw [ht] at e4
      have g2 : forB lp_after_1 (tgN 5 s.dat ⟨[.val d, .val e, .val (.str z), .val N.dat, .val (mkD mk), r5, .un, .un], S⟩) = .exc ⟨"Doubled", [("place", .int p)]⟩ ⟨[.val d, .val e, .val (.str z), .val N.dat, .val (mkD mk), .val s.dat, .val (mkD (newOf s mk)), .val (.int p)], S⟩ := by
        simp [lp_after_1, hnm, e4, optI]
      rw [g2] at g1
      simp at g1
      simp [F_after, b_after, ev_run, e1, e2, e3, g1, ht]
theorem find_en {N : Nt} (hN : N.Ok) {s : St} (hs : s ∈ N.ss) {mk : List Int} : ((enS N mk).find? fun t => decide (t.nm = s.nm)) = if en s mk = true then some s else none := by
  by_cases h : en s mk = true
  · rw [if_pos h]
    cases hq : (enS N mk).find? fun t => decide (t.nm = s.nm) with
    | none =>
      have := List.find?_eq_none.mp hq s (List.mem_filter.mpr ⟨hs, h⟩)
      simp at this
    | some t =>
      have h1 := (List.mem_filter.mp (List.mem_of_find?_eq_some hq)).1
      have h2 : t.nm = s.nm := by simpa using List.find?_some hq
      rw [nd_eq hN hs h1 h2]
  · rw [if_neg h]
    rw [List.find?_eq_none]
    intro t ht
    obtain ⟨h1, h2⟩ := List.mem_filter.mp ht
    simp
    intro e
    rw [nd_eq hN hs h1 e] at h2
    exact h h2
end Wh

namespace Lk02
open PySem PySem.Spec PyProof.Rows L2 Wd Wh
def top (i : Nat) : Stmt := PySem.Challenge.pw_wholeflow_k02_steps_of_nets.main.body.getD i (.Pass ⟨0, 0, 0, 0⟩)
abbrev s_law_enabled : Stmt := top 59
theorem sc_law_enabled : FnScope ["net", "marking", "step", "place"] ["net", "marking"] (defScope s_law_enabled) := ⟨rfl, rfl, rfl, by decide +kernel, rfl, by decide +kernel, by decide +kernel⟩
abbrev s_law_draw : Stmt := top 43
theorem sc_law_draw : FnScope ["row", "at", "limit", "mixed"] ["row", "at", "limit"] (defScope s_law_draw) := ⟨rfl, rfl, rfl, by decide +kernel, rfl, by decide +kernel, by decide +kernel⟩
abbrev s_law_take : Stmt := top 44
theorem sc_law_take : FnScope ["row", "spot", "limit"] ["row", "spot", "limit"] (defScope s_law_take) := ⟨rfl, rfl, rfl, by decide +kernel, rfl, by decide +kernel, by decide +kernel⟩
abbrev s_law_pick : Stmt := top 49
theorem sc_law_pick : FnScope ["row", "spot", "things"] ["row", "spot", "things"] (defScope s_law_pick) := ⟨rfl, rfl, rfl, by decide +kernel, rfl, by decide +kernel, by decide +kernel⟩
abbrev s_law_taken : Stmt := top 60
theorem sc_law_taken : FnScope ["marking", "step", "left", "twice", "place"] ["marking", "step"] (defScope s_law_taken) := ⟨rfl, rfl, rfl, by decide +kernel, rfl, by decide +kernel, by decide +kernel⟩
abbrev s_law_drawn_run : Stmt := top 68
theorem sc_law_drawn_run : FnScope ["row", "spot", "net", "many", "marking", "made", "k", "free", "step"] ["row", "spot", "net", "many"] (defScope s_law_drawn_run) := ⟨rfl, rfl, rfl, by decide +kernel, rfl, by decide +kernel, by decide +kernel⟩
abbrev s_is_sequence : Stmt := top 9
theorem sc_is_sequence : FnScope ["value"] ["value"] (defScope s_is_sequence) := ⟨rfl, rfl, rfl, by decide +kernel, rfl, by decide +kernel, by decide +kernel⟩
abbrev s_frozen : Stmt := top 13
theorem sc_frozen : FnScope ["value", "part"] ["value"] (defScope s_frozen) := ⟨rfl, rfl, rfl, by decide +kernel, rfl, by decide +kernel, by decide +kernel⟩
abbrev s_is_integer : Stmt := top 7
theorem sc_is_integer : FnScope ["value"] ["value"] (defScope s_is_integer) := ⟨rfl, rfl, rfl, by decide +kernel, rfl, by decide +kernel, by decide +kernel⟩
abbrev s_is_within : Stmt := top 8
theorem sc_is_within : FnScope ["value", "low", "high"] ["value", "low", "high"] (defScope s_is_within) := ⟨rfl, rfl, rfl, by decide +kernel, rfl, by decide +kernel, by decide +kernel⟩
abbrev s_are_below : Stmt := top 12
theorem sc_are_below : FnScope ["value", "many", "at", "number"] ["value", "many"] (defScope s_are_below) := ⟨rfl, rfl, rfl, by decide +kernel, rfl, by decide +kernel, by decide +kernel⟩
abbrev s_is_marking : Stmt := top 32
theorem sc_is_marking : FnScope ["net", "value"] ["net", "value"] (defScope s_is_marking) := ⟨rfl, rfl, rfl, by decide +kernel, rfl, by decide +kernel, by decide +kernel⟩
abbrev s_checked_marking : Stmt := top 33
theorem sc_checked_marking : FnScope ["net", "marking", "at"] ["net", "marking", "at"] (defScope s_checked_marking) := ⟨rfl, rfl, rfl, by decide +kernel, rfl, by decide +kernel, by decide +kernel⟩
abbrev s_leads_to : Stmt := top 29
theorem sc_leads_to : FnScope ["step", "other", "place"] ["step", "other"] (defScope s_leads_to) := ⟨rfl, rfl, rfl, by decide +kernel, rfl, by decide +kernel, by decide +kernel⟩
abbrev s_has_own_circle : Stmt := top 28
theorem sc_has_own_circle : FnScope ["steps", "left", "more", "staying", "step", "other"] ["steps"] (defScope s_has_own_circle) := ⟨rfl, rfl, rfl, by decide +kernel, rfl, by decide +kernel, by decide +kernel⟩
abbrev s_is_row : Stmt := top 10
theorem sc_is_row : FnScope ["value", "least", "most"] ["value", "least", "most"] (defScope s_is_row) := ⟨rfl, rfl, rfl, by decide +kernel, rfl, by decide +kernel, by decide +kernel⟩
abbrev s_are_places : Stmt := top 25
theorem sc_are_places : FnScope ["value", "places"] ["value", "places"] (defScope s_are_places) := ⟨rfl, rfl, rfl, by decide +kernel, rfl, by decide +kernel, by decide +kernel⟩
abbrev s_is_calendar : Stmt := top 22
theorem sc_is_calendar : FnScope ["value"] ["value"] (defScope s_is_calendar) := ⟨rfl, rfl, rfl, by decide +kernel, rfl, by decide +kernel, by decide +kernel⟩
abbrev s_is_word : Stmt := top 11
theorem sc_is_word : FnScope ["value", "sign"] ["value"] (defScope s_is_word) := ⟨rfl, rfl, rfl, by decide +kernel, rfl, by decide +kernel, by decide +kernel⟩
abbrev s_is_task_kind : Stmt := top 24
theorem sc_is_task_kind : FnScope ["value"] ["value"] (defScope s_is_task_kind) := ⟨rfl, rfl, rfl, by decide +kernel, rfl, by decide +kernel, by decide +kernel⟩
abbrev s_is_kind : Stmt := top 23
theorem sc_is_kind : FnScope ["value"] ["value"] (defScope s_is_kind) := ⟨rfl, rfl, rfl, by decide +kernel, rfl, by decide +kernel, by decide +kernel⟩
abbrev s_is_step : Stmt := top 26
theorem sc_is_step : FnScope ["value", "places"] ["value", "places"] (defScope s_is_step) := ⟨rfl, rfl, rfl, by decide +kernel, rfl, by decide +kernel, by decide +kernel⟩
abbrev s_share_ins : Stmt := top 27
theorem sc_share_ins : FnScope ["steps", "at", "step", "other", "place"] ["steps"] (defScope s_share_ins) := ⟨rfl, rfl, rfl, by decide +kernel, rfl, by decide +kernel, by decide +kernel⟩
abbrev s_is_net_shaped : Stmt := top 30
theorem sc_is_net_shaped : FnScope ["value", "steps", "step"] ["value"] (defScope s_is_net_shaped) := ⟨rfl, rfl, rfl, by decide +kernel, rfl, by decide +kernel, by decide +kernel⟩
abbrev s_checked_net : Stmt := top 31
theorem sc_checked_net : FnScope ["net", "at"] ["net", "at"] (defScope s_checked_net) := ⟨rfl, rfl, rfl, by decide +kernel, rfl, by decide +kernel, by decide +kernel⟩
abbrev s_is_enabled : Stmt := top 34
theorem sc_is_enabled : FnScope ["step", "marking", "place"] ["step", "marking"] (defScope s_is_enabled) := ⟨rfl, rfl, rfl, by decide +kernel, rfl, by decide +kernel, by decide +kernel⟩
abbrev s_enabled_steps : Stmt := top 35
theorem sc_enabled_steps : FnScope ["net", "marking", "step"] ["net", "marking"] (defScope s_enabled_steps) := ⟨rfl, rfl, rfl, by decide +kernel, rfl, by decide +kernel, by decide +kernel⟩
abbrev s_enabled : Stmt := top 38
theorem sc_enabled : FnScope ["net", "marking", "kept", "step"] ["net", "marking"] (defScope s_enabled) := ⟨rfl, rfl, rfl, by decide +kernel, rfl, by decide +kernel, by decide +kernel⟩
abbrev s_law_enabled_told : Stmt := top 70
theorem sc_law_enabled_told : FnScope ["net", "marking", "wrong"] ["net", "marking"] (defScope s_law_enabled_told) := ⟨rfl, rfl, rfl, by decide +kernel, rfl, by decide +kernel, by decide +kernel⟩
noncomputable def b_law_enabled_told : Ms → SR :=
 (sTryAs "BadValue" "at" [] 2 (.tup "bad") (sRet (fCall F_enabled (aCons (eVar 0) (aCons (eVar 1) aNil)))))
noncomputable def F_law_enabled_told : Fn := runB 3 b_law_enabled_told
abbrev s_law_either : Stmt := top 47
theorem sc_law_either : FnScope ["row", "spot", "value", "parts", "one"] ["row", "spot", "value"] (defScope s_law_either) := ⟨rfl, rfl, rfl, by decide +kernel, rfl, by decide +kernel, by decide +kernel⟩
abbrev s_law_listed : Stmt := top 46
theorem sc_law_listed : FnScope ["value", "one"] ["value"] (defScope s_law_listed) := ⟨rfl, rfl, rfl, by decide +kernel, rfl, by decide +kernel, by decide +kernel⟩
abbrev s_law_handed : Stmt := top 48
theorem sc_law_handed : FnScope ["row", "spot", "value", "kind"] ["row", "spot", "value"] (defScope s_law_handed) := ⟨rfl, rfl, rfl, by decide +kernel, rfl, by decide +kernel, by decide +kernel⟩
abbrev s_law_feeds : Stmt := top 58
theorem sc_law_feeds : FnScope ["step", "other", "place"] ["step", "other"] (defScope s_law_feeds) := ⟨rfl, rfl, rfl, by decide +kernel, rfl, by decide +kernel, by decide +kernel⟩
abbrev s_law_is_round : Stmt := top 57
theorem sc_law_is_round : FnScope ["steps", "left", "turn", "step", "other"] ["steps"] (defScope s_law_is_round) := ⟨rfl, rfl, rfl, by decide +kernel, rfl, by decide +kernel, by decide +kernel⟩
abbrev s_law_calendar : Stmt := top 61
theorem sc_law_calendar : FnScope ["row", "spot", "length", "made", "k"] ["row", "spot"] (defScope s_law_calendar) := ⟨rfl, rfl, rfl, by decide +kernel, rfl, by decide +kernel, by decide +kernel⟩
abbrev s_law_kind : Stmt := top 62
theorem sc_law_kind : FnScope ["row", "spot", "alone", "at", "undo", "lease"] ["row", "spot", "alone"] (defScope s_law_kind) := ⟨rfl, rfl, rfl, by decide +kernel, rfl, by decide +kernel, by decide +kernel⟩
abbrev s_law_shuffled : Stmt := top 50
theorem sc_law_shuffled : FnScope ["row", "spot", "many", "left", "made", "k"] ["row", "spot", "many"] (defScope s_law_shuffled) := ⟨rfl, rfl, rfl, by decide +kernel, rfl, by decide +kernel, by decide +kernel⟩
abbrev s_law_sound_net : Stmt := top 63
theorem sc_law_sound_net : FnScope ["row", "spot", "holes", "steps", "places", "turn", "names", "order", "made", "k", "fresh", "step", "way", "first", "last", "kind", "ins", "outs", "other", "place"] ["row", "spot"] (defScope s_law_sound_net) := ⟨rfl, rfl, rfl, by decide +kernel, rfl, by decide +kernel, by decide +kernel⟩
abbrev s_law_whole : Stmt := top 45
theorem sc_law_whole : FnScope ["value"] ["value"] (defScope s_law_whole) := ⟨rfl, rfl, rfl, by decide +kernel, rfl, by decide +kernel, by decide +kernel⟩
abbrev s_law_between : Stmt := top 52
theorem sc_law_between : FnScope ["value", "least", "most"] ["value", "least", "most"] (defScope s_law_between) := ⟨rfl, rfl, rfl, by decide +kernel, rfl, by decide +kernel, by decide +kernel⟩
abbrev s_law_rising : Stmt := top 53
theorem sc_law_rising : FnScope ["value", "least", "most", "k", "one"] ["value", "least", "most"] (defScope s_law_rising) := ⟨rfl, rfl, rfl, by decide +kernel, rfl, by decide +kernel, by decide +kernel⟩
abbrev s_law_is_calendar : Stmt := top 54
theorem sc_law_is_calendar : FnScope ["value"] ["value"] (defScope s_law_is_calendar) := ⟨rfl, rfl, rfl, by decide +kernel, rfl, by decide +kernel, by decide +kernel⟩
abbrev s_law_is_word : Stmt := top 51
theorem sc_law_is_word : FnScope ["value", "one"] ["value"] (defScope s_law_is_word) := ⟨rfl, rfl, rfl, by decide +kernel, rfl, by decide +kernel, by decide +kernel⟩
abbrev s_law_is_kind : Stmt := top 55
theorem sc_law_is_kind : FnScope ["value"] ["value"] (defScope s_law_is_kind) := ⟨rfl, rfl, rfl, by decide +kernel, rfl, by decide +kernel, by decide +kernel⟩
abbrev s_law_is_net : Stmt := top 56
theorem sc_law_is_net : FnScope ["value", "names", "step", "part", "other", "place"] ["value"] (defScope s_law_is_net) := ⟨rfl, rfl, rfl, by decide +kernel, rfl, by decide +kernel, by decide +kernel⟩
abbrev s_law_toggled : Stmt := top 64
theorem sc_law_toggled : FnScope ["places", "place", "one"] ["places", "place"] (defScope s_law_toggled) := ⟨rfl, rfl, rfl, by decide +kernel, rfl, by decide +kernel, by decide +kernel⟩
abbrev s_law_spoilt : Stmt := top 66
theorem sc_law_spoilt : FnScope ["row", "spot", "net", "steps", "turn", "at", "place"] ["row", "spot", "net"] (defScope s_law_spoilt) := ⟨rfl, rfl, rfl, by decide +kernel, rfl, by decide +kernel, by decide +kernel⟩
abbrev s_law_spoilt_net : Stmt := top 65
theorem sc_law_spoilt_net : FnScope ["row", "spot", "net", "made"] ["row", "spot", "net"] (defScope s_law_spoilt_net) := ⟨rfl, rfl, rfl, by decide +kernel, rfl, by decide +kernel, by decide +kernel⟩
abbrev s_law_net : Stmt := top 67
theorem sc_law_net : FnScope ["row", "spot", "net", "k", "names", "places", "steps", "parts", "side", "some", "step", "place"] ["row", "spot"] (defScope s_law_net) := ⟨rfl, rfl, rfl, by decide +kernel, rfl, by decide +kernel, by decide +kernel⟩
abbrev s_law_numbers : Stmt := top 42
theorem sc_law_numbers : FnScope ["script", "row", "cell", "left", "k", "mixed"] ["script"] (defScope s_law_numbers) := ⟨rfl, rfl, rfl, by decide +kernel, rfl, by decide +kernel, by decide +kernel⟩
abbrev s_law_so : Stmt := top 41
theorem sc_law_so : FnScope ["found", "meant", "k"] ["found", "meant"] (defScope s_law_so) := ⟨rfl, rfl, rfl, by decide +kernel, rfl, by decide +kernel, by decide +kernel⟩
abbrev s_taken : Stmt := top 36
theorem sc_taken : FnScope ["step", "marking", "left", "twice", "new", "place"] ["step", "marking"] (defScope s_taken) := ⟨rfl, rfl, rfl, by decide +kernel, rfl, by decide +kernel, by decide +kernel⟩
abbrev s_after : Stmt := top 39
theorem sc_after : FnScope ["net", "marking", "name", "kept", "own", "step", "new", "place"] ["net", "marking", "name"] (defScope s_after) := ⟨rfl, rfl, rfl, by decide +kernel, rfl, by decide +kernel, by decide +kernel⟩
abbrev s_law_told : Stmt := top 69
theorem sc_law_told : FnScope ["net", "marking", "name", "wrong"] ["net", "marking", "name"] (defScope s_law_told) := ⟨rfl, rfl, rfl, by decide +kernel, rfl, by decide +kernel, by decide +kernel⟩
noncomputable def b_law_told : Ms → SR :=
 (sTryMix [("Doubled", .named 3 "place" (.tup "doubled")), ("BadValue", .named 3 "at" (.tup "bad"))] [] (sRet (fCall F_after (aCons (eVar 0) (aCons (eVar 1) (aCons (eVar 2) aNil))))))
noncomputable def F_law_told : Fn := runB 4 b_law_told
abbrev s_law : Stmt := top 71
theorem sc_law : FnScope ["script", "row", "spot", "net", "again", "off", "marking", "free", "step", "wrong", "meant", "then", "twice", "place"] ["script"] (defScope s_law) := ⟨rfl, rfl, rfl, by decide +kernel, rfl, by decide +kernel, by decide +kernel⟩
noncomputable def lp_law_1 : Ms → SR :=
 (sSeq (sAsg (tgT [(tgN 11), (tgN 12)]) (fCall F_law_taken (aCons (eVar 6) (aCons (eVar 8) aNil))))
 (sSeq (sSet 10 (eIf (tOf (e2 (oIsN true) (eVar 12) (eC .non))) (eTup (aCons (eC (.str "doubled")) (aCons (eVar 12) aNil))) (eVar 11)))
 (sIf (tNotD (tOf (fCall (F_law_so 10) (aCons (fCall F_law_told (aCons (fCall F_law_handed (aCons (eVar 1) (aCons (eVar 2) (aCons (eVar 3) aNil)))) (aCons (eVar 6) (aCons (e2V oIx 8 (eC (.int 0))) aNil)))) (aCons (eIf (tOf (e2 (oIn false) (eVar 8) (eBor 7))) (eVar 10) (eTup (aCons (eC (.str "bad")) (aCons (eC (.int 2)) aNil)))) aNil)))))
 (sRet (eC (.bl false)))
 sNil)))
noncomputable def lp_law_2 : Ms → SR :=
 (sSeq (sSet 6 (e1 oTupOf (eNew (nLc (rg1 (aCons (e2V oIx 3 (eC (.int 0))) aNil)) [13] (tgN 13) (tOf (e2 (oEq false) (fCall F_law_take (aCons (eVar 1) (aCons (eVar 2) (aCons (eC (.int 2)) aNil)))) (eC (.int 0)))) (eVar 13)))))
 (sSeq (sIf (tOf (e2 oLt (eVar 4) (eC (.int 3))))
 (sSet 6 (e2 oIx (fCall F_law_drawn_run (aCons (eVar 1) (aCons (eVar 2) (aCons (eVar 3) (aCons (fCall F_law_take (aCons (eVar 1) (aCons (eVar 2) (aCons (eC (.int 9)) aNil)))) aNil))))) (eC (.int 1))))
 sNil)
 (sSeq (sSet 7 (fCall F_law_enabled (aCons (eVar 3) (aCons (eVar 6) aNil))))
 (sSeq (sIf (tNotD (tOf (fCall (F_law_so 10) (aCons (fCall F_law_enabled_told (aCons (fCall F_law_handed (aCons (eVar 1) (aCons (eVar 2) (aCons (eVar 3) aNil)))) (aCons (fCall F_law_handed (aCons (eVar 1) (aCons (eVar 2) (aCons (eVar 6) aNil)))) aNil))) (aCons (e1 oTupOf (eNew (nLc (itE (eVar 7)) [8] (tgN 8) tYesD (e2V oIx 8 (eC (.int 0)))))) aNil)))))
 (sRet (eC (.bl false)))
 sNil)
 (sSeq (sFor (itE (e2V oIx 3 (eC (.int 1)))) (tgN 8) lp_law_1)
 (sSeq (sSet 9 (fCall F_law_pick (aCons (eVar 1) (aCons (eVar 2) (aCons (eNew (nLst (aCons (eC .non) (aCons (eC (.int 7)) (aCons (eC (.str "zz")) (aCons (eC (.str "")) (aCons (eTup (aCons (eC (.str "ask")) aNil)) (aCons (eC (.bl true)) aNil)))))))) aNil)))))
 (sIf (tNotD (tOf (fCall (F_law_so 10) (aCons (fCall F_law_told (aCons (eVar 3) (aCons (eVar 6) (aCons (eVar 9) aNil)))) (aCons (eTup (aCons (eC (.str "bad")) (aCons (eC (.int 2)) aNil))) aNil)))))
 (sRet (eC (.bl false)))
 sNil)))))))
noncomputable def b_law : Ms → SR :=
 (sSeq (sSet 1 (fCall F_law_numbers (aCons (eVar 0) aNil)))
 (sSeq (sLoc 2 (nLst (aCons (eC (.int 0)) aNil)))
 (sSeq (sSet 3 (fCall F_law_net (aCons (eVar 1) (aCons (eVar 2) aNil))))
 (sSeq (sFor (rg1 (aCons (eC (.int 5)) aNil)) (tgN 4) lp_law_2)
 (sSeq (sSet 5 (fCall F_law_pick (aCons (eVar 1) (aCons (eVar 2) (aCons (eNew (nLst (aCons (eC .non) (aCons (eC (.int 7)) (aCons (eTup (aCons (e2V oIx 3 (eC (.int 0))) aNil)) (aCons (eTup (aCons (eC (.int 1)) (aCons (eC (.int 0)) aNil))) (aCons (eTup (aCons (eC (.int 0)) (aCons (eC (.int 0)) aNil))) (aCons (eC (.str "0")) (aCons (eTup (aCons (e1 oNeg (eC (.int 1))) aNil)) (aCons (eTup (aCons (eC (.bl true)) aNil)) aNil)))))))))) aNil)))))
 (sRet (eAnd (fCall (F_law_so 10) (aCons (fCall F_law_told (aCons (eVar 3) (aCons (eVar 5) (aCons (eC .non) aNil)))) (aCons (eTup (aCons (eC (.str "bad")) (aCons (eC (.int 1)) aNil))) aNil))) (fCall (F_law_so 10) (aCons (fCall F_law_enabled_told (aCons (eVar 3) (aCons (eVar 5) aNil))) (aCons (eTup (aCons (eC (.str "bad")) (aCons (eC (.int 1)) aNil))) aNil))))))))))
noncomputable def F_law : Fn := runB 14 b_law
structure Txt (K : PySem.W.Frag) (mg : Str → Option Value) (fa : Nat → Addr) (fd : Nat → FuncData) : Prop where
  z_len : mg "len" = none
  u59 : Fun K "_law_enabled" "_law_enabled" s_law_enabled (fa 59) (fd 59)
  m59 : mg "_law_enabled" = some (.ref (fa 59))
  k59 : PySem.W.keepIn K (.ref (fa 59)) = true
  b59 : Binds K (fd 59) ["net", "marking"] []
  z_int : mg "int" = none
  u43 : Fun K "_law_draw" "_law_draw" s_law_draw (fa 43) (fd 43)
  m43 : mg "_law_draw" = some (.ref (fa 43))
  k43 : PySem.W.keepIn K (.ref (fa 43)) = true
  b43 : Binds K (fd 43) ["row", "at", "limit"] []
  u44 : Fun K "_law_take" "_law_take" s_law_take (fa 44) (fd 44)
  m44 : mg "_law_take" = some (.ref (fa 44))
  k44 : PySem.W.keepIn K (.ref (fa 44)) = true
  b44 : Binds K (fd 44) ["row", "spot", "limit"] []
  u49 : Fun K "_law_pick" "_law_pick" s_law_pick (fa 49) (fd 49)
  m49 : mg "_law_pick" = some (.ref (fa 49))
  k49 : PySem.W.keepIn K (.ref (fa 49)) = true
  b49 : Binds K (fd 49) ["row", "spot", "things"] []
  z_min : mg "min" = none
  z_sorted : mg "sorted" = none
  z_tuple : mg "tuple" = none
  u60 : Fun K "_law_taken" "_law_taken" s_law_taken (fa 60) (fd 60)
  m60 : mg "_law_taken" = some (.ref (fa 60))
  k60 : PySem.W.keepIn K (.ref (fa 60)) = true
  b60 : Binds K (fd 60) ["marking", "step"] []
  z_range : mg "range" = none
  u68 : Fun K "_law_drawn_run" "_law_drawn_run" s_law_drawn_run (fa 68) (fd 68)
  m68 : mg "_law_drawn_run" = some (.ref (fa 68))
  k68 : PySem.W.keepIn K (.ref (fa 68)) = true
  b68 : Binds K (fd 68) ["row", "spot", "net", "many"] []
  z_list : mg "list" = none
  z_isinstance : mg "isinstance" = none
  u9 : Fun K "is_sequence" "is_sequence" s_is_sequence (fa 9) (fd 9)
  m9 : mg "is_sequence" = some (.ref (fa 9))
  k9 : PySem.W.keepIn K (.ref (fa 9)) = true
  b9 : Binds K (fd 9) ["value"] []
  u13 : Fun K "frozen" "frozen" s_frozen (fa 13) (fd 13)
  m13 : mg "frozen" = some (.ref (fa 13))
  k13 : PySem.W.keepIn K (.ref (fa 13)) = true
  b13 : Binds K (fd 13) ["value"] []
  z_bool : mg "bool" = none
  u7 : Fun K "is_integer" "is_integer" s_is_integer (fa 7) (fd 7)
  m7 : mg "is_integer" = some (.ref (fa 7))
  k7 : PySem.W.keepIn K (.ref (fa 7)) = true
  b7 : Binds K (fd 7) ["value"] []
  u8 : Fun K "is_within" "is_within" s_is_within (fa 8) (fd 8)
  m8 : mg "is_within" = some (.ref (fa 8))
  k8 : PySem.W.keepIn K (.ref (fa 8)) = true
  b8 : Binds K (fd 8) ["value", "low", "high"] []
  z_all : mg "all" = none
  u12 : Fun K "are_below" "are_below" s_are_below (fa 12) (fd 12)
  m12 : mg "are_below" = some (.ref (fa 12))
  k12 : PySem.W.keepIn K (.ref (fa 12)) = true
  b12 : Binds K (fd 12) ["value", "many"] []
  u32 : Fun K "is_marking" "is_marking" s_is_marking (fa 32) (fd 32)
  m32 : mg "is_marking" = some (.ref (fa 32))
  k32 : PySem.W.keepIn K (.ref (fa 32)) = true
  b32 : Binds K (fd 32) ["net", "value"] []
  x2 : ExnT K mg "BadValue" "at" (fa 2) (He.ma K (fa 2) "__init__")
  u33 : Fun K "checked_marking" "checked_marking" s_checked_marking (fa 33) (fd 33)
  m33 : mg "checked_marking" = some (.ref (fa 33))
  k33 : PySem.W.keepIn K (.ref (fa 33)) = true
  b33 : Binds K (fd 33) ["net", "marking", "at"] []
  z_any : mg "any" = none
  u29 : Fun K "leads_to" "leads_to" s_leads_to (fa 29) (fd 29)
  m29 : mg "leads_to" = some (.ref (fa 29))
  k29 : PySem.W.keepIn K (.ref (fa 29)) = true
  b29 : Binds K (fd 29) ["step", "other"] []
  u28 : Fun K "has_own_circle" "has_own_circle" s_has_own_circle (fa 28) (fd 28)
  m28 : mg "has_own_circle" = some (.ref (fa 28))
  k28 : PySem.W.keepIn K (.ref (fa 28)) = true
  b28 : Binds K (fd 28) ["steps"] []
  u10 : Fun K "is_row" "is_row" s_is_row (fa 10) (fd 10)
  m10 : mg "is_row" = some (.ref (fa 10))
  k10 : PySem.W.keepIn K (.ref (fa 10)) = true
  b10 : Binds K (fd 10) ["value", "least", "most"] []
  u25 : Fun K "are_places" "are_places" s_are_places (fa 25) (fd 25)
  m25 : mg "are_places" = some (.ref (fa 25))
  k25 : PySem.W.keepIn K (.ref (fa 25)) = true
  b25 : Binds K (fd 25) ["value", "places"] []
  c_MOST_LENGTH : ∃ t, mg "MOST_LENGTH" = some (Value.int 28 t)
  u22 : Fun K "is_calendar" "is_calendar" s_is_calendar (fa 22) (fd 22)
  m22 : mg "is_calendar" = some (.ref (fa 22))
  k22 : PySem.W.keepIn K (.ref (fa 22)) = true
  b22 : Binds K (fd 22) ["value"] []
  z_str : mg "str" = none
  c_MOST_LETTERS : ∃ t, mg "MOST_LETTERS" = some (Value.int 8 t)
  c_LETTERS : ∃ t, mg "LETTERS" = some (Value.str "abcdefghijklmnopqrstuvwxyz" t)
  u11 : Fun K "is_word" "is_word" s_is_word (fa 11) (fd 11)
  m11 : mg "is_word" = some (.ref (fa 11))
  k11 : PySem.W.keepIn K (.ref (fa 11)) = true
  b11 : Binds K (fd 11) ["value"] []
  c_MOST_TRIES : ∃ t, mg "MOST_TRIES" = some (Value.int 5 t)
  c_MOST_TICKS : ∃ t, mg "MOST_TICKS" = some (Value.int 1000 t)
  u24 : Fun K "is_task_kind" "is_task_kind" s_is_task_kind (fa 24) (fd 24)
  m24 : mg "is_task_kind" = some (.ref (fa 24))
  k24 : PySem.W.keepIn K (.ref (fa 24)) = true
  b24 : Binds K (fd 24) ["value"] []
  u23 : Fun K "is_kind" "is_kind" s_is_kind (fa 23) (fd 23)
  m23 : mg "is_kind" = some (.ref (fa 23))
  k23 : PySem.W.keepIn K (.ref (fa 23)) = true
  b23 : Binds K (fd 23) ["value"] []
  c_END : GTup K mg "END" [.int 1]
  u26 : Fun K "is_step" "is_step" s_is_step (fa 26) (fd 26)
  m26 : mg "is_step" = some (.ref (fa 26))
  k26 : PySem.W.keepIn K (.ref (fa 26)) = true
  b26 : Binds K (fd 26) ["value", "places"] []
  z_enumerate : mg "enumerate" = none
  u27 : Fun K "share_ins" "share_ins" s_share_ins (fa 27) (fd 27)
  m27 : mg "share_ins" = some (.ref (fa 27))
  k27 : PySem.W.keepIn K (.ref (fa 27)) = true
  b27 : Binds K (fd 27) ["steps"] []
  c_MOST_PLACES : ∃ t, mg "MOST_PLACES" = some (Value.int 8 t)
  c_LEAST_PLACES : ∃ t, mg "LEAST_PLACES" = some (Value.int 2 t)
  c_MOST_STEPS : ∃ t, mg "MOST_STEPS" = some (Value.int 10 t)
  z_set : mg "set" = none
  u30 : Fun K "is_net_shaped" "is_net_shaped" s_is_net_shaped (fa 30) (fd 30)
  m30 : mg "is_net_shaped" = some (.ref (fa 30))
  k30 : PySem.W.keepIn K (.ref (fa 30)) = true
  b30 : Binds K (fd 30) ["value"] []
  u31 : Fun K "checked_net" "checked_net" s_checked_net (fa 31) (fd 31)
  m31 : mg "checked_net" = some (.ref (fa 31))
  k31 : PySem.W.keepIn K (.ref (fa 31)) = true
  b31 : Binds K (fd 31) ["net", "at"] []
  u34 : Fun K "is_enabled" "is_enabled" s_is_enabled (fa 34) (fd 34)
  m34 : mg "is_enabled" = some (.ref (fa 34))
  k34 : PySem.W.keepIn K (.ref (fa 34)) = true
  b34 : Binds K (fd 34) ["step", "marking"] []
  u35 : Fun K "enabled_steps" "enabled_steps" s_enabled_steps (fa 35) (fd 35)
  m35 : mg "enabled_steps" = some (.ref (fa 35))
  k35 : PySem.W.keepIn K (.ref (fa 35)) = true
  b35 : Binds K (fd 35) ["net", "marking"] []
  u38 : Fun K "enabled" "enabled" s_enabled (fa 38) (fd 38)
  m38 : mg "enabled" = some (.ref (fa 38))
  k38 : PySem.W.keepIn K (.ref (fa 38)) = true
  b38 : Binds K (fd 38) ["net", "marking"] []
  e2_2 : PySem.W.exmOne K (.ref (fa 2)) (.ref (fa 2)) = some true
  kb38 : ∀ (s : Shared) (us : List Value), us.length = (["net", "marking"] : List Str).length → BindsTo s (fd 38) ⟨[], (["net", "marking"] : List Str).zip us⟩ ((["net", "marking"] : List Str).zip us)
  u70 : Fun K "_law_enabled_told" "_law_enabled_told" s_law_enabled_told (fa 70) (fd 70)
  m70 : mg "_law_enabled_told" = some (.ref (fa 70))
  k70 : PySem.W.keepIn K (.ref (fa 70)) = true
  b70 : Binds K (fd 70) ["net", "marking"] []
  u47 : Fun K "_law_either" "_law_either" s_law_either (fa 47) (fd 47)
  m47 : mg "_law_either" = some (.ref (fa 47))
  k47 : PySem.W.keepIn K (.ref (fa 47)) = true
  b47 : Binds K (fd 47) ["row", "spot", "value"] []
  u46 : Fun K "_law_listed" "_law_listed" s_law_listed (fa 46) (fd 46)
  m46 : mg "_law_listed" = some (.ref (fa 46))
  k46 : PySem.W.keepIn K (.ref (fa 46)) = true
  b46 : Binds K (fd 46) ["value"] []
  u48 : Fun K "_law_handed" "_law_handed" s_law_handed (fa 48) (fd 48)
  m48 : mg "_law_handed" = some (.ref (fa 48))
  k48 : PySem.W.keepIn K (.ref (fa 48)) = true
  b48 : Binds K (fd 48) ["row", "spot", "value"] []
  u58 : Fun K "_law_feeds" "_law_feeds" s_law_feeds (fa 58) (fd 58)
  m58 : mg "_law_feeds" = some (.ref (fa 58))
  k58 : PySem.W.keepIn K (.ref (fa 58)) = true
  b58 : Binds K (fd 58) ["step", "other"] []
  u57 : Fun K "_law_is_round" "_law_is_round" s_law_is_round (fa 57) (fd 57)
  m57 : mg "_law_is_round" = some (.ref (fa 57))
  k57 : PySem.W.keepIn K (.ref (fa 57)) = true
  b57 : Binds K (fd 57) ["steps"] []
  u61 : Fun K "_law_calendar" "_law_calendar" s_law_calendar (fa 61) (fd 61)
  m61 : mg "_law_calendar" = some (.ref (fa 61))
  k61 : PySem.W.keepIn K (.ref (fa 61)) = true
  b61 : Binds K (fd 61) ["row", "spot"] []
  u62 : Fun K "_law_kind" "_law_kind" s_law_kind (fa 62) (fd 62)
  m62 : mg "_law_kind" = some (.ref (fa 62))
  k62 : PySem.W.keepIn K (.ref (fa 62)) = true
  b62 : Binds K (fd 62) ["row", "spot", "alone"] []
  u50 : Fun K "_law_shuffled" "_law_shuffled" s_law_shuffled (fa 50) (fd 50)
  m50 : mg "_law_shuffled" = some (.ref (fa 50))
  k50 : PySem.W.keepIn K (.ref (fa 50)) = true
  b50 : Binds K (fd 50) ["row", "spot", "many"] []
  u63 : Fun K "_law_sound_net" "_law_sound_net" s_law_sound_net (fa 63) (fd 63)
  m63 : mg "_law_sound_net" = some (.ref (fa 63))
  k63 : PySem.W.keepIn K (.ref (fa 63)) = true
  b63 : Binds K (fd 63) ["row", "spot"] []
  u45 : Fun K "_law_whole" "_law_whole" s_law_whole (fa 45) (fd 45)
  m45 : mg "_law_whole" = some (.ref (fa 45))
  k45 : PySem.W.keepIn K (.ref (fa 45)) = true
  b45 : Binds K (fd 45) ["value"] []
  u52 : Fun K "_law_between" "_law_between" s_law_between (fa 52) (fd 52)
  m52 : mg "_law_between" = some (.ref (fa 52))
  k52 : PySem.W.keepIn K (.ref (fa 52)) = true
  b52 : Binds K (fd 52) ["value", "least", "most"] []
  u53 : Fun K "_law_rising" "_law_rising" s_law_rising (fa 53) (fd 53)
  m53 : mg "_law_rising" = some (.ref (fa 53))
  k53 : PySem.W.keepIn K (.ref (fa 53)) = true
  b53 : Binds K (fd 53) ["value", "least", "most"] []
  u54 : Fun K "_law_is_calendar" "_law_is_calendar" s_law_is_calendar (fa 54) (fd 54)
  m54 : mg "_law_is_calendar" = some (.ref (fa 54))
  k54 : PySem.W.keepIn K (.ref (fa 54)) = true
  b54 : Binds K (fd 54) ["value"] []
  u51 : Fun K "_law_is_word" "_law_is_word" s_law_is_word (fa 51) (fd 51)
  m51 : mg "_law_is_word" = some (.ref (fa 51))
  k51 : PySem.W.keepIn K (.ref (fa 51)) = true
  b51 : Binds K (fd 51) ["value"] []
  u55 : Fun K "_law_is_kind" "_law_is_kind" s_law_is_kind (fa 55) (fd 55)
  m55 : mg "_law_is_kind" = some (.ref (fa 55))
  k55 : PySem.W.keepIn K (.ref (fa 55)) = true
  b55 : Binds K (fd 55) ["value"] []
  u56 : Fun K "_law_is_net" "_law_is_net" s_law_is_net (fa 56) (fd 56)
  m56 : mg "_law_is_net" = some (.ref (fa 56))
  k56 : PySem.W.keepIn K (.ref (fa 56)) = true
  b56 : Binds K (fd 56) ["value"] []
  u64 : Fun K "_law_toggled" "_law_toggled" s_law_toggled (fa 64) (fd 64)
  m64 : mg "_law_toggled" = some (.ref (fa 64))
  k64 : PySem.W.keepIn K (.ref (fa 64)) = true
  b64 : Binds K (fd 64) ["places", "place"] []
  z_max : mg "max" = none
  u66 : Fun K "_law_spoilt" "_law_spoilt" s_law_spoilt (fa 66) (fd 66)
  m66 : mg "_law_spoilt" = some (.ref (fa 66))
  k66 : PySem.W.keepIn K (.ref (fa 66)) = true
  b66 : Binds K (fd 66) ["row", "spot", "net"] []
  u65 : Fun K "_law_spoilt_net" "_law_spoilt_net" s_law_spoilt_net (fa 65) (fd 65)
  m65 : mg "_law_spoilt_net" = some (.ref (fa 65))
  k65 : PySem.W.keepIn K (.ref (fa 65)) = true
  b65 : Binds K (fd 65) ["row", "spot", "net"] []
  u67 : Fun K "_law_net" "_law_net" s_law_net (fa 67) (fd 67)
  m67 : mg "_law_net" = some (.ref (fa 67))
  k67 : PySem.W.keepIn K (.ref (fa 67)) = true
  b67 : Binds K (fd 67) ["row", "spot"] []
  u42 : Fun K "_law_numbers" "_law_numbers" s_law_numbers (fa 42) (fd 42)
  m42 : mg "_law_numbers" = some (.ref (fa 42))
  k42 : PySem.W.keepIn K (.ref (fa 42)) = true
  b42 : Binds K (fd 42) ["script"] []
  u41 : Fun K "_law_so" "_law_so" s_law_so (fa 41) (fd 41)
  m41 : mg "_law_so" = some (.ref (fa 41))
  k41 : PySem.W.keepIn K (.ref (fa 41)) = true
  b41 : Binds K (fd 41) ["found", "meant"] []
  u36 : Fun K "taken" "taken" s_taken (fa 36) (fd 36)
  m36 : mg "taken" = some (.ref (fa 36))
  k36 : PySem.W.keepIn K (.ref (fa 36)) = true
  b36 : Binds K (fd 36) ["step", "marking"] []
  x3 : ExnT K mg "Doubled" "place" (fa 3) (He.ma K (fa 3) "__init__")
  u39 : Fun K "after" "after" s_after (fa 39) (fd 39)
  m39 : mg "after" = some (.ref (fa 39))
  k39 : PySem.W.keepIn K (.ref (fa 39)) = true
  b39 : Binds K (fd 39) ["net", "marking", "name"] []
  kb39 : ∀ (s : Shared) (us : List Value), us.length = (["net", "marking", "name"] : List Str).length → BindsTo s (fd 39) ⟨[], (["net", "marking", "name"] : List Str).zip us⟩ ((["net", "marking", "name"] : List Str).zip us)
  g2 : mg "BadValue" = some (.ref (fa 2))
  g3 : mg "Doubled" = some (.ref (fa 3))
  e2_3 : PySem.W.exmOne K (.ref (fa 2)) (.ref (fa 3)) = some false
  e3_3 : PySem.W.exmOne K (.ref (fa 3)) (.ref (fa 3)) = some true
  u69 : Fun K "_law_told" "_law_told" s_law_told (fa 69) (fd 69)
  m69 : mg "_law_told" = some (.ref (fa 69))
  k69 : PySem.W.keepIn K (.ref (fa 69)) = true
  b69 : Binds K (fd 69) ["net", "marking", "name"] []
  u71 : Fun K "law" "law" s_law (fa 71) (fd 71)
  m71 : mg "law" = some (.ref (fa 71))
  k71 : PySem.W.keepIn K (.ref (fa 71)) = true
  b71 : Binds K (fd 71) ["script"] []
section
variable {P : Program} {w : World} {K : PySem.W.Frag} {mg : Str → Option Value} {base : Heap} {fa : Nat → Addr} {fd : Nat → FuncData}
theorem ok_law_enabled (T : Txt K mg fa fd) : DFn P w K mg base 1 (fa 59) (fd 59) ["net", "marking"] F_law_enabled :=
  dfn_of (k := 0) (body := b_law_enabled) T.u59 sc_law_enabled fun cdv A outer s H E hr => by
    have hu := hr.units
    exact (dss_one (ds_ret (de_new (dn_lc [("step", 2)] rfl sc_law_enabled.nd (di_seq (de_ixV 0 de_int)) (blkOk_by (by kernel_rfl)) (fun _ _ _ _ _ => (dg_name 2 sc_law_enabled.nd)) (fun _ _ _ _ _ => (dts_one (dt_cmp (op_eqA hu) bs_eq (de_len T.z_len (db_of (de_new (dn_lc [("place", 3)] rfl sc_law_enabled.nd (di_seq (de_ixV 2 de_int)) (blkOk_by (by kernel_rfl)) (fun _ _ _ _ _ => (dg_name 3 sc_law_enabled.nd)) (fun _ _ _ _ _ => (dts_one (dt_cmpR (op_ninX (hu65 hr)) (br_in true) (de_var 3) (db_var 1)))) (fun _ _ _ _ _ => (de_var 3)))))) de_int))) (fun _ _ _ _ _ => (de_var 2))))))
theorem ok_law_draw (T : Txt K mg fa fd) : DFn P w K mg base 1 (fa 43) (fd 43) ["row", "at", "limit"] F_law_draw :=
  dfn_of (k := 0) (body := b_law_draw) T.u43 sc_law_draw fun cdv A outer s H E hr => by
    have hu := hr.units
    exact (dss_cons (ds_if (dt_cmp op_lt bs_cmp (de_var 1) (de_len T.z_len (db_var 0)))
 (dss_one (ds_ret (de_mod (de_callTy call_int1 cal_int T.z_int boot_int (da_cons (de_ixV 0 (de_var 1)) da_nil)) (de_var 2))))
 dss_nil)
 (dss_cons (ds_set 3 sc_law_draw.nd (de_mod (de_callTy call_int1 cal_int T.z_int boot_int (da_cons (de_add (de_add (de_mul (de_ixV 0 (de_mod (de_callTy call_int1 cal_int T.z_int boot_int (da_cons (de_var 1) da_nil)) (de_len T.z_len (db_var 0)))) de_int) (de_mul (de_var 1) de_int)) de_int) da_nil)) de_int))
 (dss_one (ds_ret (de_mod (de_callTy call_int1 cal_int T.z_int boot_int (da_cons (de_mod (de_callTy call_int1 cal_int T.z_int boot_int (da_cons (de_add (de_mul (de_var 3) de_int) (de_var 1)) da_nil)) de_int) da_nil)) (de_var 2))))))
theorem ok_law_take (T : Txt K mg fa fd) : DFn P w K mg base 2 (fa 44) (fd 44) ["row", "spot", "limit"] F_law_take :=
  dfn_of (k := 1) (body := b_law_take) T.u44 sc_law_take fun cdv A outer s H E hr => by
    have hu := hr.units
    exact (dss_cons (ds_ix 1 (de_add (de_ixV 1 de_int) de_int) de_int)
 (dss_one (ds_ret (de_call (takes_of rfl rfl rfl rfl) (ok_law_draw T) (hr.mono (by decide)) T.m43 T.k43 T.b43 (da_cons (de_var 0) (da_cons (de_sub (de_ixV 1 de_int) de_int) (da_cons (de_var 2) da_nil))) (hlen := (len_cons (len_cons (len_cons len_nil))))))))
theorem ok_law_pick (T : Txt K mg fa fd) : DFn P w K mg base 3 (fa 49) (fd 49) ["row", "spot", "things"] F_law_pick :=
  dfn_of (k := 2) (body := b_law_pick) T.u49 sc_law_pick fun cdv A outer s H E hr => by
    have hu := hr.units
    exact (dss_one (ds_ret (de_ixV 2 (de_call (takes_of rfl rfl rfl rfl) (ok_law_take T) (hr.mono (by decide)) T.m44 T.k44 T.b44 (da_cons (de_var 0) (da_cons (de_var 1) (da_cons (de_len T.z_len (db_var 2)) da_nil))) (hlen := (len_cons (len_cons (len_cons len_nil))))))))
theorem ok_law_taken (T : Txt K mg fa fd) : DFn P w K mg base 1 (fa 60) (fd 60) ["marking", "step"] F_law_taken :=
  dfn_of (k := 0) (body := b_law_taken) T.u60 sc_law_taken fun cdv A outer s H E hr => by
    have hu := hr.units
    exact (dss_cons (ds_set 2 sc_law_taken.nd (de_new (dn_lc [("place", 4)] rfl sc_law_taken.nd (di_seq (de_var 0)) (blkOk_by (by kernel_rfl)) (fun _ _ _ _ _ => (dg_name 4 sc_law_taken.nd)) (fun _ _ _ _ _ => (dts_one (dt_cmpR (op_ninX (hu65 hr)) (br_in true) (de_var 4) (db_of (de_ixV 1 de_int))))) (fun _ _ _ _ _ => (de_var 4)))))
 (dss_cons (ds_setLc 3 [("place", 4)] rfl sc_law_taken.nd (di_seq (de_ixV 1 de_int)) (blkOk_by (by kernel_rfl)) (fun _ _ _ _ _ => (dg_name 4 sc_law_taken.nd)) (fun _ _ _ _ _ => (dts_one (dt_cmpR (op_inX (hu65 hr)) (br_in false) (de_var 4) (db_var 2)))) (fun _ _ _ _ _ => (de_var 4)) (sw_true rfl rfl rfl (by decide +kernel)))
 (dss_one (ds_ret (de_tup (da_cons (de_tuple T.z_tuple (db_of (de_new (dn_sortedI T.z_sorted (dl_new (dn_catV 2 (dlo_new (dn_lc [("place", 4)] rfl sc_law_taken.nd (di_seq (de_ixV 1 de_int)) (blkOk_by (by kernel_rfl)) (fun _ _ _ _ _ => (dg_name 4 sc_law_taken.nd)) (fun _ _ _ _ _ => (dts_one (dt_cmpR (op_ninX (hu65 hr)) (br_in true) (de_var 4) (db_var 2)))) (fun _ _ _ _ _ => (de_var 4)))))))))) (da_cons (de_if (dt_cmp op_gt bs_cmp (de_len T.z_len (db_var 3)) de_int) (de_minL rfl T.z_min (dl_of (db_var 3))) de_non) da_nil)))))))
theorem ok_law_drawn_run (T : Txt K mg fa fd) : DFn P w K mg base 4 (fa 68) (fd 68) ["row", "spot", "net", "many"] F_law_drawn_run :=
  dfn_of (k := 3) (body := b_law_drawn_run) T.u68 sc_law_drawn_run fun cdv A outer s H E hr => by
    have hu := hr.units
    exact (dss_cons (ds_set 4 sc_law_drawn_run.nd (de_tup (da_cons de_int da_nil)))
 (dss_cons (ds_own 5 sc_law_drawn_run.nd (dn_lst da_nil))
 (dss_cons (ds_for rfl (di_range1 T.z_range (da_cons (de_var 3) da_nil)) (dg_name 6 sc_law_drawn_run.nd)
 (dss_cons (ds_setLc 7 [("step", 8)] rfl sc_law_drawn_run.nd (di_seq (de_call (takes_of rfl rfl rfl rfl) (ok_law_enabled T) (hr.mono (by decide)) T.m59 T.k59 T.b59 (da_cons (de_var 2) (da_cons (de_var 4) da_nil)) (hlen := (len_cons (len_cons len_nil))))) (blkOk_by (by kernel_rfl)) (fun _ _ _ _ _ => (dg_name 8 sc_law_drawn_run.nd)) (fun _ _ _ _ _ => (dts_one (dt_cmp op_isND bs_isN (de_ix (de_call takes0 (ok_law_taken T) (hr.mono (by decide)) T.m60 T.k60 T.b60 (da_cons (de_var 4) (da_cons (de_var 8) da_nil)) (hlen := (len_cons (len_cons len_nil)))) de_int) de_non))) (fun _ _ _ _ _ => (de_var 8)) (sw_true rfl rfl rfl (by decide +kernel)))
 (dss_cons (ds_if (dt_cmp (op_eqA hu) bs_eq (de_len T.z_len (db_var 7)) de_int)
 (dss_one ds_break)
 dss_nil)
 (dss_cons (ds_set 8 sc_law_drawn_run.nd (de_call (takes_of rfl rfl rfl rfl) (ok_law_pick T) (hr.mono (by decide)) T.m49 T.k49 T.b49 (da_cons (de_var 0) (da_cons (de_var 1) (da_cons (de_var 7) da_nil))) (hlen := (len_cons (len_cons (len_cons len_nil))))))
 (dss_cons (ds_expr (de_meth PySem.F.slot_list_append PySem.F.type_list_append mt_append mut_append 5 (da_cons (de_ixV 8 de_int) da_nil)))
 (dss_one (ds_set 4 sc_law_drawn_run.nd (de_ix (de_call (takes_of rfl rfl rfl rfl) (ok_law_taken T) (hr.mono (by decide)) T.m60 T.k60 T.b60 (da_cons (de_var 4) (da_cons (de_var 8) da_nil)) (hlen := (len_cons (len_cons len_nil)))) de_int))))))))
 (dss_one (ds_ret (de_tup (da_cons (de_tuple T.z_tuple (db_var 5)) (da_cons (de_var 4) da_nil))))))))
theorem ok_is_sequence (T : Txt K mg fa fd) : DFn P w K mg base 1 (fa 9) (fd 9) ["value"] F_is_sequence :=
  dfn_of (k := 0) (body := b_is_sequence) T.u9 sc_is_sequence fun cdv A outer s H E hr => by
    have hu := hr.units
    exact (dss_one (ds_ret (de_isiT T.z_isinstance (db_var 0) (ty_cons .list T.z_list boot_list (ty_cons .tuple T.z_tuple boot_tuple ty_nil)))))
theorem ok_frozen (T : Txt K mg fa fd) : ∀ n : Nat, DFn P w K mg base (1 + n) (fa 13) (fd 13) ["value"] (F_frozen n)
  | 0 => dfn_stuck
  | n + 1 => dfn_of (k := 1 + n) (body := b_frozen (F_frozen n)) T.u13 sc_frozen fun cdv A outer s H E hr => by
    have hu := hr.units
    have ih := ok_frozen T n
    exact (dss_cons (ds_if (dt_val (de_call (takes_of rfl rfl rfl rfl) (ok_is_sequence T) (hr.mono (by omega)) T.m9 T.k9 T.b9 (da_cons (de_var 0) da_nil) (hlen := (len_cons len_nil))))
 (dss_one (ds_ret (de_tuple T.z_tuple (db_of (de_new (dn_lc [("part", 1)] rfl sc_frozen.nd (di_seq (de_var 0)) (blkOk_by (by kernel_rfl)) (fun _ _ _ _ _ => (dg_name 1 sc_frozen.nd)) (fun _ _ _ _ _ => dts_nil) (fun _ _ _ _ _ => (de_call takes0 ih hr T.m13 T.k13 T.b13 (da_cons (de_var 1) da_nil) (hlen := (len_cons len_nil))))))))))
 dss_nil)
 (dss_one (ds_ret (de_var 0))))
theorem ok_is_integer (T : Txt K mg fa fd) : DFn P w K mg base 1 (fa 7) (fd 7) ["value"] F_is_integer :=
  dfn_of (k := 0) (body := b_is_integer) T.u7 sc_is_integer fun cdv A outer s H E hr => by
    have hu := hr.units
    exact (dss_one (ds_ret (de_and (de_isi .int T.z_isinstance T.z_int boot_int (db_var 0)) (de_one (de_not (de_isi .bool T.z_isinstance T.z_bool boot_bool (db_var 0)))))))
theorem ok_is_within (T : Txt K mg fa fd) : DFn P w K mg base 2 (fa 8) (fd 8) ["value", "low", "high"] F_is_within :=
  dfn_of (k := 1) (body := b_is_within) T.u8 sc_is_within fun cdv A outer s H E hr => by
    have hu := hr.units
    exact (dss_one (ds_ret (de_and (de_call (takes_of rfl rfl rfl rfl) (ok_is_integer T) (hr.mono (by decide)) T.m7 T.k7 T.b7 (da_cons (de_var 0) da_nil) (hlen := (len_cons len_nil))) (de_one (de_chain op_le op_le bs_cmp bs_cmp (de_var 1) (de_var 0) (de_var 2))))))
theorem ok_are_below (T : Txt K mg fa fd) : DFn P w K mg base 3 (fa 12) (fd 12) ["value", "many"] F_are_below :=
  dfn_of (k := 2) (body := b_are_below) T.u12 sc_are_below fun cdv A outer s H E hr => by
    have hu := hr.units
    exact (dss_cons (ds_if (dt_w (dw_or (dt_not (dt_val (de_call (takes_of rfl rfl rfl rfl) (ok_is_sequence T) (hr.mono (by decide)) T.m9 T.k9 T.b9 (da_cons (de_var 0) da_nil) (hlen := (len_cons len_nil))))) (dw_or1 (dt_not (dt_val (de_all rfl T.z_all (dl_new (dn_lc [("number", 3)] rfl sc_are_below.nd (di_seq (de_var 0)) (blkOk_by (by kernel_rfl)) (fun _ _ _ _ _ => (dg_name 3 sc_are_below.nd)) (fun _ _ _ _ _ => dts_nil) (fun _ _ _ _ _ => (de_call takes0 (ok_is_within T) (hr.mono (by decide)) T.m8 T.k8 T.b8 (da_cons (de_var 3) (da_cons de_int (da_cons (de_sub (de_var 1) de_int) da_nil))) (hlen := (len_cons (len_cons (len_cons len_nil))))))))))))))
 (dss_one (ds_ret de_bl))
 dss_nil)
 (dss_one (ds_ret (de_all rfl T.z_all (dl_new (dn_lc [("at", 2)] rfl sc_are_below.nd (di_range2 T.z_range (da_cons de_int (da_cons (de_len T.z_len (db_var 0)) da_nil))) (blkOk_by (by kernel_rfl)) (fun _ _ _ _ _ => (dg_name 2 sc_are_below.nd)) (fun _ _ _ _ _ => dts_nil) (fun _ _ _ _ _ => (de_cmp op_lt bs_cmp (de_ixV 0 (de_sub (de_var 2) de_int)) (de_ixV 0 (de_var 2))))))))))
theorem ok_is_marking (T : Txt K mg fa fd) : DFn P w K mg base 4 (fa 32) (fd 32) ["net", "value"] F_is_marking :=
  dfn_of (k := 3) (body := b_is_marking) T.u32 sc_is_marking fun cdv A outer s H E hr => by
    have hu := hr.units
    exact (dss_one (ds_ret (de_call (takes_of rfl rfl rfl rfl) (ok_are_below T) (hr.mono (by decide)) T.m12 T.k12 T.b12 (da_cons (de_var 1) (da_cons (de_ixV 0 de_int) da_nil)) (hlen := (len_cons (len_cons len_nil))))))
theorem ok_checked_marking (T : Txt K mg fa fd) : DFn P w K mg base 12 (fa 33) (fd 33) ["net", "marking", "at"] F_checked_marking :=
  dfn_of (k := 11) (body := b_checked_marking) T.u33 sc_checked_marking fun cdv A outer s H E hr => by
    have hu := hr.units
    exact (dss_cons (ds_if (dt_not (dt_val (de_call (takes_of rfl rfl rfl rfl) (ok_is_marking T) (hr.mono (by decide)) T.m32 T.k32 T.b32 (da_cons (de_var 0) (da_cons (de_var 1) da_nil)) (hlen := (len_cons (len_cons len_nil))))))
 (dss_one (ds_raise rfl T.x2 hr (takes_of rfl rfl rfl rfl) (de_var 2)))
 dss_nil)
 (dss_one (ds_ret (de_call (takes_of rfl rfl rfl rfl) (ok_frozen T 10) (hr.mono (by decide)) T.m13 T.k13 T.b13 (da_cons (de_var 1) da_nil) (hlen := (len_cons len_nil))))))
theorem ok_leads_to (T : Txt K mg fa fd) : DFn P w K mg base 1 (fa 29) (fd 29) ["step", "other"] F_leads_to :=
  dfn_of (k := 0) (body := b_leads_to) T.u29 sc_leads_to fun cdv A outer s H E hr => by
    have hu := hr.units
    exact (dss_one (ds_ret (de_any rfl T.z_any (dl_new (dn_lc [("place", 2)] rfl sc_leads_to.nd (di_seq (de_ixV 0 de_int)) (blkOk_by (by kernel_rfl)) (fun _ _ _ _ _ => (dg_name 2 sc_leads_to.nd)) (fun _ _ _ _ _ => dts_nil) (fun _ _ _ _ _ => (de_cmpR (op_inX (hu65 hr)) (br_in false) (de_var 2) (db_of (de_ixV 1 de_int)))))))))
theorem ok_has_own_circle (T : Txt K mg fa fd) : DFn P w K mg base 2 (fa 28) (fd 28) ["steps"] F_has_own_circle :=
  dfn_of (k := 1) (body := b_has_own_circle) T.u28 sc_has_own_circle fun cdv A outer s H E hr => by
    have hu := hr.units
    exact (dss_cons (ds_set 1 sc_has_own_circle.nd (de_new (dn_lc [("step", 4)] rfl sc_has_own_circle.nd (di_seq (de_var 0)) (blkOk_by (by kernel_rfl)) (fun _ _ _ _ _ => (dg_name 4 sc_has_own_circle.nd)) (fun _ _ _ _ _ => (dts_one (dt_cmpR (op_inX (hu65 hr)) (br_in false) (de_ix (de_ixV 4 de_int) de_int) (db_of (de_tup (da_cons de_str (da_cons de_str da_nil))))))) (fun _ _ _ _ _ => (de_var 4)))))
 (dss_cons (ds_set 2 sc_has_own_circle.nd de_bl)
 (dss_cons (ds_while (dt_truth (db_var 2))
 (dss_cons (ds_setLc 3 [("step", 4)] rfl sc_has_own_circle.nd (di_seq (de_var 1)) (blkOk_by (by kernel_rfl)) (fun _ _ _ _ _ => (dg_name 4 sc_has_own_circle.nd)) (fun _ _ _ _ _ => (dts_one (dt_val (de_any rfl T.z_any (dl_new (dn_lc [("other", 5)] rfl sc_has_own_circle.nd (di_seq (de_var 1)) (blkOk_by (by kernel_rfl)) (fun _ _ _ _ _ => (dg_name 5 sc_has_own_circle.nd)) (fun _ _ _ _ _ => dts_nil) (fun _ _ _ _ _ => (de_call takes0 (ok_leads_to T) (hr.mono (by decide)) T.m29 T.k29 T.b29 (da_cons (de_var 4) (da_cons (de_var 5) da_nil)) (hlen := (len_cons (len_cons len_nil))))))))))) (fun _ _ _ _ _ => (de_var 4)) (sw_true rfl rfl rfl (by decide +kernel)))
 (dss_cons (ds_set 2 sc_has_own_circle.nd (de_cmp op_lt bs_cmp (de_len T.z_len (db_var 3)) (de_len T.z_len (db_var 1))))
 (dss_one (ds_set 1 sc_has_own_circle.nd (de_var 3))))))
 (dss_one (ds_ret (de_cmp op_gt bs_cmp (de_len T.z_len (db_var 1)) de_int))))))
theorem ok_is_row (T : Txt K mg fa fd) : DFn P w K mg base 2 (fa 10) (fd 10) ["value", "least", "most"] F_is_row :=
  dfn_of (k := 1) (body := b_is_row) T.u10 sc_is_row fun cdv A outer s H E hr => by
    have hu := hr.units
    exact (dss_one (ds_ret (de_and (de_call (takes_of rfl rfl rfl rfl) (ok_is_sequence T) (hr.mono (by decide)) T.m9 T.k9 T.b9 (da_cons (de_var 0) da_nil) (hlen := (len_cons len_nil))) (de_one (de_chain op_le op_le bs_cmp bs_cmp (de_var 1) (de_len T.z_len (db_var 0)) (de_var 2))))))
theorem ok_are_places (T : Txt K mg fa fd) : DFn P w K mg base 4 (fa 25) (fd 25) ["value", "places"] F_are_places :=
  dfn_of (k := 3) (body := b_are_places) T.u25 sc_are_places fun cdv A outer s H E hr => by
    have hu := hr.units
    exact (dss_one (ds_ret (de_and (de_call (takes_of rfl rfl rfl rfl) (ok_are_below T) (hr.mono (by decide)) T.m12 T.k12 T.b12 (da_cons (de_var 0) (da_cons (de_var 1) da_nil)) (hlen := (len_cons (len_cons len_nil)))) (de_one (de_cmp op_gt bs_cmp (de_len T.z_len (db_var 0)) de_int)))))
theorem ok_is_calendar (T : Txt K mg fa fd) : DFn P w K mg base 4 (fa 22) (fd 22) ["value"] F_is_calendar :=
  dfn_of (k := 3) (body := b_is_calendar) T.u22 sc_is_calendar fun cdv A outer s H E hr => by
    have hu := hr.units
    exact (dss_cons (ds_if (dt_cmp op_isND bs_isN (de_var 0) de_non)
 (dss_one (ds_ret de_bl))
 dss_nil)
 (dss_cons (ds_if (dt_w (dw_or (dt_not (dt_val (de_call (takes_of rfl rfl rfl rfl) (ok_is_row T) (hr.mono (by decide)) T.m10 T.k10 T.b10 (da_cons (de_var 0) (da_cons de_int (da_cons de_int da_nil))) (hlen := (len_cons (len_cons (len_cons len_nil))))))) (dw_or1 (dt_not (dt_val (de_call (takes_of rfl rfl rfl rfl) (ok_is_within T) (hr.mono (by decide)) T.m8 T.k8 T.b8 (da_cons (de_ixV 0 de_int) (da_cons de_int (da_cons (de_gint T.c_MOST_LENGTH) da_nil))) (hlen := (len_cons (len_cons (len_cons len_nil))))))))))
 (dss_one (ds_ret de_bl))
 dss_nil)
 (dss_one (ds_ret (de_and (de_call (takes_of rfl rfl rfl rfl) (ok_are_below T) (hr.mono (by decide)) T.m12 T.k12 T.b12 (da_cons (de_ixV 0 de_int) (da_cons (de_ixV 0 de_int) da_nil)) (hlen := (len_cons (len_cons len_nil)))) (de_one (de_cmp op_gt bs_cmp (de_len T.z_len (db_of (de_ixV 0 de_int))) de_int)))))))
theorem ok_is_word (T : Txt K mg fa fd) : DFn P w K mg base 1 (fa 11) (fd 11) ["value"] F_is_word :=
  dfn_of (k := 0) (body := b_is_word) T.u11 sc_is_word fun cdv A outer s H E hr => by
    have hu := hr.units
    exact (dss_one (ds_ret (de_and (de_isi .str T.z_isinstance T.z_str boot_str (db_var 0)) (de_and (de_chain op_le op_le bs_cmp bs_cmp de_int (de_len T.z_len (db_var 0)) (de_gint T.c_MOST_LETTERS)) (de_one (de_all rfl T.z_all (dl_new (dn_lc [("sign", 1)] rfl sc_is_word.nd (di_seq (de_var 0)) (blkOk_by (by kernel_rfl)) (fun _ _ _ _ _ => (dg_name 1 sc_is_word.nd)) (fun _ _ _ _ _ => dts_nil) (fun _ _ _ _ _ => (de_cmpR (op_inX (hu65 hr)) (br_in false) (de_var 1) (db_of (de_gstr T.c_LETTERS))))))))))))
theorem ok_is_task_kind (T : Txt K mg fa fd) : DFn P w K mg base 3 (fa 24) (fd 24) ["value"] F_is_task_kind :=
  dfn_of (k := 2) (body := b_is_task_kind) T.u24 sc_is_task_kind fun cdv A outer s H E hr => by
    have hu := hr.units
    exact (dss_cons (ds_if (dt_w (dw_or (dt_cmp (op_neA hu) bs_ne (de_len T.z_len (db_var 0)) de_int) (dw_or (dt_not (dt_val (de_call (takes_of rfl rfl rfl rfl) (ok_is_word T) (hr.mono (by decide)) T.m11 T.k11 T.b11 (da_cons (de_ixV 0 de_int) da_nil) (hlen := (len_cons len_nil))))) (dw_or1 (dt_not (dt_val (de_call (takes_of rfl rfl rfl rfl) (ok_is_within T) (hr.mono (by decide)) T.m8 T.k8 T.b8 (da_cons (de_ixV 0 de_int) (da_cons de_int (da_cons (de_gint T.c_MOST_TRIES) da_nil))) (hlen := (len_cons (len_cons (len_cons len_nil)))))))))))
 (dss_one (ds_ret de_bl))
 dss_nil)
 (dss_one (ds_ret (de_and (de_call (takes_of rfl rfl rfl rfl) (ok_is_within T) (hr.mono (by decide)) T.m8 T.k8 T.b8 (da_cons (de_ixV 0 de_int) (da_cons de_int (da_cons (de_gint T.c_MOST_TICKS) da_nil))) (hlen := (len_cons (len_cons (len_cons len_nil))))) (de_one (de_or (de_cmp op_isND bs_isN (de_ixV 0 de_int) de_non) (de_one (de_call (takes_of rfl rfl rfl rfl) (ok_is_word T) (hr.mono (by decide)) T.m11 T.k11 T.b11 (da_cons (de_ixV 0 de_int) da_nil) (hlen := (len_cons len_nil))))))))))
theorem ok_is_kind (T : Txt K mg fa fd) : DFn P w K mg base 5 (fa 23) (fd 23) ["value"] F_is_kind :=
  dfn_of (k := 4) (body := b_is_kind) T.u23 sc_is_kind fun cdv A outer s H E hr => by
    have hu := hr.units
    exact (dss_cons (ds_if (dt_w (dw_or (dt_not (dt_val (de_call (takes_of rfl rfl rfl rfl) (ok_is_row T) (hr.mono (by decide)) T.m10 T.k10 T.b10 (da_cons (de_var 0) (da_cons de_int (da_cons de_int da_nil))) (hlen := (len_cons (len_cons (len_cons len_nil))))))) (dw_or1 (dt_not (dt_val (de_isi .str T.z_isinstance T.z_str boot_str (db_of (de_ixV 0 de_int))))))))
 (dss_one (ds_ret de_bl))
 dss_nil)
 (dss_cons (ds_if (dt_w (dw_or (dt_cmp (op_eqA hu) bs_eq (de_ixV 0 de_int) de_str) (dw_or1 (dt_cmp (op_eqA hu) bs_eq (de_ixV 0 de_int) de_str))))
 (dss_one (ds_ret (de_cmp (op_eqA hu) bs_eq (de_len T.z_len (db_var 0)) de_int)))
 dss_nil)
 (dss_cons (ds_if (dt_cmp (op_eqA hu) bs_eq (de_ixV 0 de_int) de_str)
 (dss_one (ds_ret (de_and (de_cmp (op_eqA hu) bs_eq (de_len T.z_len (db_var 0)) de_int) (de_one (de_call (takes_of rfl rfl rfl rfl) (ok_is_word T) (hr.mono (by decide)) T.m11 T.k11 T.b11 (da_cons (de_ixV 0 de_int) da_nil) (hlen := (len_cons len_nil)))))))
 dss_nil)
 (dss_cons (ds_if (dt_cmp (op_eqA hu) bs_eq (de_ixV 0 de_int) de_str)
 (dss_one (ds_ret (de_and (de_cmp (op_eqA hu) bs_eq (de_len T.z_len (db_var 0)) de_int) (de_and (de_call (takes_of rfl rfl rfl rfl) (ok_is_within T) (hr.mono (by decide)) T.m8 T.k8 T.b8 (da_cons (de_ixV 0 de_int) (da_cons de_int (da_cons (de_gint T.c_MOST_TICKS) da_nil))) (hlen := (len_cons (len_cons (len_cons len_nil))))) (de_one (de_call (takes_of rfl rfl rfl rfl) (ok_is_calendar T) (hr.mono (by decide)) T.m22 T.k22 T.b22 (da_cons (de_ixV 0 de_int) da_nil) (hlen := (len_cons len_nil))))))))
 dss_nil)
 (dss_one (ds_ret (de_and (de_cmp (op_eqA hu) bs_eq (de_ixV 0 de_int) de_str) (de_one (de_call (takes_of rfl rfl rfl rfl) (ok_is_task_kind T) (hr.mono (by decide)) T.m24 T.k24 T.b24 (da_cons (de_var 0) da_nil) (hlen := (len_cons len_nil)))))))))))
theorem ok_is_step (T : Txt K mg fa fd) : DFn P w K mg base 6 (fa 26) (fd 26) ["value", "places"] F_is_step :=
  dfn_of (k := 5) (body := b_is_step) T.u26 sc_is_step fun cdv A outer s H E hr => by
    have hu := hr.units
    exact (dss_cons (ds_if (dt_w (dw_or (dt_not (dt_val (de_call (takes_of rfl rfl rfl rfl) (ok_is_row T) (hr.mono (by decide)) T.m10 T.k10 T.b10 (da_cons (de_var 0) (da_cons de_int (da_cons de_int da_nil))) (hlen := (len_cons (len_cons (len_cons len_nil))))))) (dw_or (dt_not (dt_val (de_call (takes_of rfl rfl rfl rfl) (ok_is_word T) (hr.mono (by decide)) T.m11 T.k11 T.b11 (da_cons (de_ixV 0 de_int) da_nil) (hlen := (len_cons len_nil))))) (dw_or1 (dt_not (dt_val (de_call (takes_of rfl rfl rfl rfl) (ok_is_kind T) (hr.mono (by decide)) T.m23 T.k23 T.b23 (da_cons (de_ixV 0 de_int) da_nil) (hlen := (len_cons len_nil)))))))))
 (dss_one (ds_ret de_bl))
 dss_nil)
 (dss_one (ds_ret (de_and (de_call (takes_of rfl rfl rfl rfl) (ok_are_places T) (hr.mono (by decide)) T.m25 T.k25 T.b25 (da_cons (de_ixV 0 de_int) (da_cons (de_var 1) da_nil)) (hlen := (len_cons (len_cons len_nil)))) (de_and (de_call (takes_of rfl rfl rfl rfl) (ok_are_places T) (hr.mono (by decide)) T.m25 T.k25 T.b25 (da_cons (de_ixV 0 de_int) (da_cons (de_var 1) da_nil)) (hlen := (len_cons (len_cons len_nil)))) (de_one (de_cmpR (op_ninX (hu65 hr)) (br_in true) (de_ix (de_gtup T.c_END) de_int) (db_of (de_ixV 0 de_int)))))))))
theorem ok_share_ins (T : Txt K mg fa fd) : DFn P w K mg base 1 (fa 27) (fd 27) ["steps"] F_share_ins :=
  dfn_of (k := 0) (body := b_share_ins) T.u27 sc_share_ins fun cdv A outer s H E hr => by
    have hu := hr.units
    exact (dss_cons (ds_for rfl (di_enum T.z_enumerate (de_var 0)) (dg_tup rfl (dgs_cons (dg_name 1 sc_share_ins.nd) (dgs_cons (dg_name 2 sc_share_ins.nd) dgs_nil)))
 (dss_one (ds_for rfl (di_seq (de_slice (de_var 0) do_none (do_some (de_var 1)))) (dg_name 3 sc_share_ins.nd)
 (dss_one (ds_if (dt_w (dw_and (dt_w (dw_or (dt_cmp (op_eqA hu) bs_eq (de_ix (de_ixV 2 de_int) de_int) de_str) (dw_or1 (dt_cmp (op_eqA hu) bs_eq (de_ix (de_ixV 3 de_int) de_int) de_str)))) (dw_and1 (dt_val (de_any rfl T.z_any (dl_new (dn_lc [("place", 4)] rfl sc_share_ins.nd (di_seq (de_ixV 2 de_int)) (blkOk_by (by kernel_rfl)) (fun _ _ _ _ _ => (dg_name 4 sc_share_ins.nd)) (fun _ _ _ _ _ => dts_nil) (fun _ _ _ _ _ => (de_cmpR (op_inX (hu65 hr)) (br_in false) (de_var 4) (db_of (de_ixV 3 de_int)))))))))))
 (dss_one (ds_ret de_bl))
 dss_nil)))))
 (dss_one (ds_ret de_bl)))
theorem ok_is_net_shaped (T : Txt K mg fa fd) : DFn P w K mg base 7 (fa 30) (fd 30) ["value"] F_is_net_shaped :=
  dfn_of (k := 6) (body := b_is_net_shaped) T.u30 sc_is_net_shaped fun cdv A outer s H E hr => by
    have hu := hr.units
    exact (dss_cons (ds_if (dt_w (dw_or (dt_not (dt_val (de_call (takes_of rfl rfl rfl rfl) (ok_is_row T) (hr.mono (by decide)) T.m10 T.k10 T.b10 (da_cons (de_var 0) (da_cons de_int (da_cons de_int da_nil))) (hlen := (len_cons (len_cons (len_cons len_nil))))))) (dw_or1 (dt_not (dt_val (de_call (takes_of rfl rfl rfl rfl) (ok_is_within T) (hr.mono (by decide)) T.m8 T.k8 T.b8 (da_cons (de_ixV 0 de_int) (da_cons (de_gint T.c_LEAST_PLACES) (da_cons (de_gint T.c_MOST_PLACES) da_nil))) (hlen := (len_cons (len_cons (len_cons len_nil))))))))))
 (dss_one (ds_ret de_bl))
 dss_nil)
 (dss_cons (ds_set 1 sc_is_net_shaped.nd (de_ixV 0 de_int))
 (dss_cons (ds_if (dt_w (dw_or (dt_not (dt_val (de_call (takes_of rfl rfl rfl rfl) (ok_is_row T) (hr.mono (by decide)) T.m10 T.k10 T.b10 (da_cons (de_var 1) (da_cons de_int (da_cons (de_gint T.c_MOST_STEPS) da_nil))) (hlen := (len_cons (len_cons (len_cons len_nil))))))) (dw_or1 (dt_not (dt_val (de_all rfl T.z_all (dl_new (dn_lc [("step", 2)] rfl sc_is_net_shaped.nd (di_seq (de_var 1)) (blkOk_by (by kernel_rfl)) (fun _ _ _ _ _ => (dg_name 2 sc_is_net_shaped.nd)) (fun _ _ _ _ _ => dts_nil) (fun _ _ _ _ _ => (de_call takes0 (ok_is_step T) (hr.mono (by decide)) T.m26 T.k26 T.b26 (da_cons (de_var 2) (da_cons (de_ixV 0 de_int) da_nil)) (hlen := (len_cons (len_cons len_nil)))))))))))))
 (dss_one (ds_ret de_bl))
 dss_nil)
 (dss_cons (ds_if (dt_cmp op_lt bs_cmp (de_lenSetS rfl T.z_len T.z_set (dl_new (dn_lc [("step", 2)] rfl sc_is_net_shaped.nd (di_seq (de_var 1)) (blkOk_by (by kernel_rfl)) (fun _ _ _ _ _ => (dg_name 2 sc_is_net_shaped.nd)) (fun _ _ _ _ _ => dts_nil) (fun _ _ _ _ _ => (de_ixV 2 de_int))))) (de_len T.z_len (db_var 1)))
 (dss_one (ds_ret de_bl))
 dss_nil)
 (dss_one (ds_ret (de_and (de_not (de_call (takes_of rfl rfl rfl rfl) (ok_share_ins T) (hr.mono (by decide)) T.m27 T.k27 T.b27 (da_cons (de_var 1) da_nil) (hlen := (len_cons len_nil)))) (de_one (de_not (de_call (takes_of rfl rfl rfl rfl) (ok_has_own_circle T) (hr.mono (by decide)) T.m28 T.k28 T.b28 (da_cons (de_var 1) da_nil) (hlen := (len_cons len_nil))))))))))))
theorem ok_checked_net (T : Txt K mg fa fd) : DFn P w K mg base 12 (fa 31) (fd 31) ["net", "at"] F_checked_net :=
  dfn_of (k := 11) (body := b_checked_net) T.u31 sc_checked_net fun cdv A outer s H E hr => by
    have hu := hr.units
    exact (dss_cons (ds_if (dt_not (dt_val (de_call (takes_of rfl rfl rfl rfl) (ok_is_net_shaped T) (hr.mono (by decide)) T.m30 T.k30 T.b30 (da_cons (de_var 0) da_nil) (hlen := (len_cons len_nil)))))
 (dss_one (ds_raise rfl T.x2 hr (takes_of rfl rfl rfl rfl) (de_var 1)))
 dss_nil)
 (dss_one (ds_ret (de_call (takes_of rfl rfl rfl rfl) (ok_frozen T 10) (hr.mono (by decide)) T.m13 T.k13 T.b13 (da_cons (de_var 0) da_nil) (hlen := (len_cons len_nil))))))
theorem ok_is_enabled (T : Txt K mg fa fd) : DFn P w K mg base 1 (fa 34) (fd 34) ["step", "marking"] F_is_enabled :=
  dfn_of (k := 0) (body := b_is_enabled) T.u34 sc_is_enabled fun cdv A outer s H E hr => by
    have hu := hr.units
    exact (dss_one (ds_ret (de_all rfl T.z_all (dl_new (dn_lc [("place", 2)] rfl sc_is_enabled.nd (di_seq (de_ixV 0 de_int)) (blkOk_by (by kernel_rfl)) (fun _ _ _ _ _ => (dg_name 2 sc_is_enabled.nd)) (fun _ _ _ _ _ => dts_nil) (fun _ _ _ _ _ => (de_cmpR (op_inX (hu65 hr)) (br_in false) (de_var 2) (db_var 1))))))))
theorem ok_enabled_steps (T : Txt K mg fa fd) : DFn P w K mg base 2 (fa 35) (fd 35) ["net", "marking"] F_enabled_steps :=
  dfn_of (k := 1) (body := b_enabled_steps) T.u35 sc_enabled_steps fun cdv A outer s H E hr => by
    have hu := hr.units
    exact (dss_one (ds_ret (de_new (dn_lc [("step", 2)] rfl sc_enabled_steps.nd (di_seq (de_ixV 0 de_int)) (blkOk_by (by kernel_rfl)) (fun _ _ _ _ _ => (dg_name 2 sc_enabled_steps.nd)) (fun _ _ _ _ _ => (dts_one (dt_val (de_call takes0 (ok_is_enabled T) (hr.mono (by decide)) T.m34 T.k34 T.b34 (da_cons (de_var 2) (da_cons (de_var 1) da_nil)) (hlen := (len_cons (len_cons len_nil))))))) (fun _ _ _ _ _ => (de_var 2))))))
theorem ok_enabled (T : Txt K mg fa fd) : DFn P w K mg base 13 (fa 38) (fd 38) ["net", "marking"] F_enabled :=
  dfn_of (k := 12) (body := b_enabled) T.u38 sc_enabled fun cdv A outer s H E hr => by
    have hu := hr.units
    exact (dss_cons (ds_set 2 sc_enabled.nd (de_call (takes_of rfl rfl rfl rfl) (ok_checked_net T) (hr.mono (by decide)) T.m31 T.k31 T.b31 (da_cons (de_var 0) (da_cons de_int da_nil)) (hlen := (len_cons (len_cons len_nil)))))
 (dss_one (ds_ret (de_tuple T.z_tuple (db_of (de_new (dn_lc [("step", 3)] rfl sc_enabled.nd (di_seq (de_call (takes_of rfl rfl rfl rfl) (ok_enabled_steps T) (hr.mono (by decide)) T.m35 T.k35 T.b35 (da_cons (de_var 2) (da_cons (de_call (takes_of rfl rfl rfl rfl) (ok_checked_marking T) (hr.mono (by decide)) T.m33 T.k33 T.b33 (da_cons (de_var 2) (da_cons (de_var 1) (da_cons de_int da_nil))) (hlen := (len_cons (len_cons (len_cons len_nil))))) da_nil)) (hlen := (len_cons (len_cons len_nil))))) (blkOk_by (by kernel_rfl)) (fun _ _ _ _ _ => (dg_name 3 sc_enabled.nd)) (fun _ _ _ _ _ => dts_nil) (fun _ _ _ _ _ => (de_ixV 3 de_int)))))))))
theorem ok_law_enabled_told (T : Txt K mg fa fd) : DFn P w K mg base 14 (fa 70) (fd 70) ["net", "marking"] F_law_enabled_told :=
  dfn_of (k := 13) (body := b_law_enabled_told) T.u70 sc_law_enabled_told fun cdv A outer s H E hr => by
    have hu := hr.units
    exact (dss_one (ds_tryAs 2 rfl rfl sc_law_enabled_told.nd T.x2 T.e2_2 oth_nil (takes_of rfl rfl rfl rfl) (fun W pn xe tk hp => (dss_one (ds_ret (de_callK tk (ok_enabled T) (hr.mono (by decide)) T.m38 T.k38 T.kb38 (dk_cons (de_var 0) (dk_cons (de_var 1) dk_nil)) (len_cons (len_cons len_nil)))))) .tup))
theorem ok_law_either (T : Txt K mg fa fd) : ∀ n : Nat, DFn P w K mg base (2 + n) (fa 47) (fd 47) ["row", "spot", "value"] (F_law_either n)
  | 0 => dfn_stuck
  | n + 1 => dfn_of (k := 2 + n) (body := b_law_either (F_law_either n)) T.u47 sc_law_either fun cdv A outer s H E hr => by
    have hu := hr.units
    have ih := ok_law_either T n
    exact (dss_cons (ds_if (dt_val (de_isi .tuple T.z_isinstance T.z_tuple boot_tuple (db_var 2)))
 (dss_cons (ds_setLc 3 [("one", 4)] rfl sc_law_either.nd (di_seq (de_var 2)) (blkOk_by (by kernel_rfl)) (fun _ _ _ _ _ => (dg_name 4 sc_law_either.nd)) (fun _ _ _ _ _ => dts_nil) (fun _ _ _ _ _ => (de_call takes0 ih hr T.m47 T.k47 T.b47 (da_cons (de_var 0) (da_cons (de_var 1) (da_cons (de_var 4) da_nil))) (hlen := (len_cons (len_cons (len_cons len_nil)))))) (sw_true rfl rfl rfl (by decide +kernel)))
 (dss_one (ds_ret (de_if (dt_cmp (op_eqA hu) bs_eq (de_call (takes_of rfl rfl rfl rfl) (ok_law_take T) (hr.mono (by omega)) T.m44 T.k44 T.b44 (da_cons (de_var 0) (da_cons (de_var 1) (da_cons de_int da_nil))) (hlen := (len_cons (len_cons (len_cons len_nil))))) de_int) (de_var 3) (de_tuple T.z_tuple (db_var 3))))))
 dss_nil)
 (dss_one (ds_ret (de_var 2))))
theorem ok_law_listed (T : Txt K mg fa fd) : ∀ n : Nat, DFn P w K mg base (0 + n) (fa 46) (fd 46) ["value"] (F_law_listed n)
  | 0 => dfn_stuck
  | n + 1 => dfn_of (k := 0 + n) (body := b_law_listed (F_law_listed n)) T.u46 sc_law_listed fun cdv A outer s H E hr => by
    have hu := hr.units
    have ih := ok_law_listed T n
    exact (dss_cons (ds_if (dt_val (de_isi .tuple T.z_isinstance T.z_tuple boot_tuple (db_var 0)))
 (dss_one (ds_ret (de_new (dn_lc [("one", 1)] rfl sc_law_listed.nd (di_seq (de_var 0)) (blkOk_by (by kernel_rfl)) (fun _ _ _ _ _ => (dg_name 1 sc_law_listed.nd)) (fun _ _ _ _ _ => dts_nil) (fun _ _ _ _ _ => (de_call takes0 ih hr T.m46 T.k46 T.b46 (da_cons (de_var 1) da_nil) (hlen := (len_cons len_nil))))))))
 dss_nil)
 (dss_one (ds_ret (de_var 0))))
theorem ok_law_handed (T : Txt K mg fa fd) : DFn P w K mg base 13 (fa 48) (fd 48) ["row", "spot", "value"] F_law_handed :=
  dfn_of (k := 12) (body := b_law_handed) T.u48 sc_law_handed fun cdv A outer s H E hr => by
    have hu := hr.units
    exact (dss_cons (ds_set 3 sc_law_handed.nd (de_call (takes_of rfl rfl rfl rfl) (ok_law_take T) (hr.mono (by decide)) T.m44 T.k44 T.b44 (da_cons (de_var 0) (da_cons (de_var 1) (da_cons de_int da_nil))) (hlen := (len_cons (len_cons (len_cons len_nil))))))
 (dss_cons (ds_if (dt_cmp (op_eqA hu) bs_eq (de_var 3) de_int)
 (dss_one (ds_ret (de_call (takes_of rfl rfl rfl rfl) (ok_law_either T 10) (hr.mono (by decide)) T.m47 T.k47 T.b47 (da_cons (de_var 0) (da_cons (de_var 1) (da_cons (de_var 2) da_nil))) (hlen := (len_cons (len_cons (len_cons len_nil)))))))
 dss_nil)
 (dss_one (ds_ret (de_if (dt_cmp (op_eqA hu) bs_eq (de_var 3) de_int) (de_call (takes_of rfl rfl rfl rfl) (ok_law_listed T 10) (hr.mono (by decide)) T.m46 T.k46 T.b46 (da_cons (de_var 2) da_nil) (hlen := (len_cons len_nil))) (de_var 2))))))
theorem ok_law_feeds (T : Txt K mg fa fd) : DFn P w K mg base 1 (fa 58) (fd 58) ["step", "other"] F_law_feeds :=
  dfn_of (k := 0) (body := b_law_feeds) T.u58 sc_law_feeds fun cdv A outer s H E hr => by
    have hu := hr.units
    exact (dss_one (ds_ret (de_cmp op_gt bs_cmp (de_len T.z_len (db_of (de_new (dn_lc [("place", 2)] rfl sc_law_feeds.nd (di_seq (de_ixV 0 de_int)) (blkOk_by (by kernel_rfl)) (fun _ _ _ _ _ => (dg_name 2 sc_law_feeds.nd)) (fun _ _ _ _ _ => (dts_one (dt_cmpR (op_inX (hu65 hr)) (br_in false) (de_var 2) (db_of (de_ixV 1 de_int))))) (fun _ _ _ _ _ => (de_var 2)))))) de_int)))
theorem ok_law_is_round (T : Txt K mg fa fd) : DFn P w K mg base 2 (fa 57) (fd 57) ["steps"] F_law_is_round :=
  dfn_of (k := 1) (body := b_law_is_round) T.u57 sc_law_is_round fun cdv A outer s H E hr => by
    have hu := hr.units
    exact (dss_cons (ds_set 1 sc_law_is_round.nd (de_new (dn_lc [("step", 3)] rfl sc_law_is_round.nd (di_seq (de_var 0)) (blkOk_by (by kernel_rfl)) (fun _ _ _ _ _ => (dg_name 3 sc_law_is_round.nd)) (fun _ _ _ _ _ => (dts_one (dt_cmpR (op_inX (hu65 hr)) (br_in false) (de_ix (de_ixV 3 de_int) de_int) (db_of (de_tup (da_cons de_str (da_cons de_str da_nil))))))) (fun _ _ _ _ _ => (de_var 3)))))
 (dss_cons (ds_for rfl (di_range1 T.z_range (da_cons (de_len T.z_len (db_var 1)) da_nil)) (dg_name 2 sc_law_is_round.nd)
 (dss_one (ds_set 1 sc_law_is_round.nd (de_new (dn_lc [("step", 3)] rfl sc_law_is_round.nd (di_seq (de_var 1)) (blkOk_by (by kernel_rfl)) (fun _ _ _ _ _ => (dg_name 3 sc_law_is_round.nd)) (fun _ _ _ _ _ => (dts_one (dt_cmp op_gt bs_cmp (de_len T.z_len (db_of (de_new (dn_lc [("other", 4)] rfl sc_law_is_round.nd (di_seq (de_var 1)) (blkOk_by (by kernel_rfl)) (fun _ _ _ _ _ => (dg_name 4 sc_law_is_round.nd)) (fun _ _ _ _ _ => (dts_one (dt_val (de_call takes0 (ok_law_feeds T) (hr.mono (by decide)) T.m58 T.k58 T.b58 (da_cons (de_var 3) (da_cons (de_var 4) da_nil)) (hlen := (len_cons (len_cons len_nil))))))) (fun _ _ _ _ _ => (de_var 4)))))) de_int))) (fun _ _ _ _ _ => (de_var 3)))))))
 (dss_one (ds_ret (de_cmp op_gt bs_cmp (de_len T.z_len (db_var 1)) de_int)))))
theorem ok_law_calendar (T : Txt K mg fa fd) : DFn P w K mg base 3 (fa 61) (fd 61) ["row", "spot"] F_law_calendar :=
  dfn_of (k := 2) (body := b_law_calendar) T.u61 sc_law_calendar fun cdv A outer s H E hr => by
    have hu := hr.units
    exact (dss_cons (ds_if (dt_cmp (op_eqA hu) bs_eq (de_call (takes_of rfl rfl rfl rfl) (ok_law_take T) (hr.mono (by decide)) T.m44 T.k44 T.b44 (da_cons (de_var 0) (da_cons (de_var 1) (da_cons de_int da_nil))) (hlen := (len_cons (len_cons (len_cons len_nil))))) de_int)
 (dss_one (ds_ret de_non))
 dss_nil)
 (dss_cons (ds_set 2 sc_law_calendar.nd (de_add de_int (de_call (takes_of rfl rfl rfl rfl) (ok_law_take T) (hr.mono (by decide)) T.m44 T.k44 T.b44 (da_cons (de_var 0) (da_cons (de_var 1) (da_cons (de_ix (de_new (dn_lst (da_cons de_int (da_cons de_int (da_cons de_int da_nil))))) (de_call (takes_of rfl rfl rfl rfl) (ok_law_take T) (hr.mono (by decide)) T.m44 T.k44 T.b44 (da_cons (de_var 0) (da_cons (de_var 1) (da_cons de_int da_nil))) (hlen := (len_cons (len_cons (len_cons len_nil)))))) da_nil))) (hlen := (len_cons (len_cons (len_cons len_nil)))))))
 (dss_cons (ds_setLc 3 [("k", 4)] rfl sc_law_calendar.nd (di_range1 T.z_range (da_cons (de_var 2) da_nil)) (blkOk_by (by kernel_rfl)) (fun _ _ _ _ _ => (dg_name 4 sc_law_calendar.nd)) (fun _ _ _ _ _ => (dts_one (dt_cmp (op_eqA hu) bs_eq (de_call takes0 (ok_law_take T) (hr.mono (by decide)) T.m44 T.k44 T.b44 (da_cons (de_var 0) (da_cons (de_var 1) (da_cons de_int da_nil))) (hlen := (len_cons (len_cons (len_cons len_nil))))) de_int))) (fun _ _ _ _ _ => (de_var 4)) (sw_true rfl rfl rfl (by decide +kernel)))
 (dss_one (ds_ret (de_if (dt_cmp op_gt bs_cmp (de_len T.z_len (db_var 3)) de_int) (de_tup (da_cons (de_var 2) (da_cons (de_tuple T.z_tuple (db_var 3)) da_nil))) (de_tup (da_cons (de_var 2) (da_cons (de_tup (da_cons (de_call (takes_of rfl rfl rfl rfl) (ok_law_take T) (hr.mono (by decide)) T.m44 T.k44 T.b44 (da_cons (de_var 0) (da_cons (de_var 1) (da_cons (de_var 2) da_nil))) (hlen := (len_cons (len_cons (len_cons len_nil))))) da_nil)) da_nil)))))))))
theorem ok_law_kind (T : Txt K mg fa fd) : DFn P w K mg base 4 (fa 62) (fd 62) ["row", "spot", "alone"] F_law_kind :=
  dfn_of (k := 3) (body := b_law_kind) T.u62 sc_law_kind fun cdv A outer s H E hr => by
    have hu := hr.units
    exact (dss_cons (ds_set 3 sc_law_kind.nd (de_call (takes_of rfl rfl rfl rfl) (ok_law_take T) (hr.mono (by decide)) T.m44 T.k44 T.b44 (da_cons (de_var 0) (da_cons (de_var 1) (da_cons de_int da_nil))) (hlen := (len_cons (len_cons (len_cons len_nil))))))
 (dss_cons (ds_if (dt_w (dw_and (dt_cmp (op_eqA hu) bs_eq (de_var 3) de_int) (dw_and1 (dt_truth (db_var 2)))))
 (dss_one (ds_ret (de_tup (da_cons de_str da_nil))))
 dss_nil)
 (dss_cons (ds_if (dt_w (dw_or (dt_cmp (op_eqA hu) bs_eq (de_var 3) de_int) (dw_or1 (dt_cmp (op_eqA hu) bs_eq (de_var 3) de_int))))
 (dss_one (ds_ret (de_tup (da_cons de_str da_nil))))
 dss_nil)
 (dss_cons (ds_if (dt_cmp (op_eqA hu) bs_eq (de_var 3) de_int)
 (dss_one (ds_ret (de_tup (da_cons de_str (da_cons (de_call (takes_of rfl rfl rfl rfl) (ok_law_pick T) (hr.mono (by decide)) T.m49 T.k49 T.b49 (da_cons (de_var 0) (da_cons (de_var 1) (da_cons (de_new (dn_lst (da_cons de_str (da_cons de_str (da_cons de_str da_nil))))) da_nil))) (hlen := (len_cons (len_cons (len_cons len_nil))))) da_nil)))))
 dss_nil)
 (dss_cons (ds_if (dt_cmp (op_eqA hu) bs_eq (de_var 3) de_int)
 (dss_one (ds_ret (de_tup (da_cons de_str (da_cons (de_ix (de_new (dn_lst (da_cons de_int (da_cons de_int (da_cons de_int (da_cons de_int (da_cons de_int (da_cons de_int da_nil)))))))) (de_call (takes_of rfl rfl rfl rfl) (ok_law_take T) (hr.mono (by decide)) T.m44 T.k44 T.b44 (da_cons (de_var 0) (da_cons (de_var 1) (da_cons de_int da_nil))) (hlen := (len_cons (len_cons (len_cons len_nil)))))) (da_cons (de_call (takes_of rfl rfl rfl rfl) (ok_law_calendar T) (hr.mono (by decide)) T.m61 T.k61 T.b61 (da_cons (de_var 0) (da_cons (de_var 1) da_nil)) (hlen := (len_cons (len_cons len_nil)))) da_nil))))))
 dss_nil)
 (dss_cons (ds_set 4 sc_law_kind.nd (de_ix (de_new (dn_lst (da_cons de_non (da_cons de_str (da_cons de_str (da_cons de_str da_nil)))))) (de_call (takes_of rfl rfl rfl rfl) (ok_law_take T) (hr.mono (by decide)) T.m44 T.k44 T.b44 (da_cons (de_var 0) (da_cons (de_var 1) (da_cons de_int da_nil))) (hlen := (len_cons (len_cons (len_cons len_nil)))))))
 (dss_cons (ds_set 5 sc_law_kind.nd (de_ix (de_new (dn_lst (da_cons de_int (da_cons de_int (da_cons de_int (da_cons de_int (da_cons de_int da_nil))))))) (de_call (takes_of rfl rfl rfl rfl) (ok_law_take T) (hr.mono (by decide)) T.m44 T.k44 T.b44 (da_cons (de_var 0) (da_cons (de_var 1) (da_cons de_int da_nil))) (hlen := (len_cons (len_cons (len_cons len_nil)))))))
 (dss_one (ds_ret (de_tup (da_cons de_str (da_cons (de_call (takes_of rfl rfl rfl rfl) (ok_law_pick T) (hr.mono (by decide)) T.m49 T.k49 T.b49 (da_cons (de_var 0) (da_cons (de_var 1) (da_cons (de_new (dn_lst (da_cons de_str (da_cons de_str da_nil)))) da_nil))) (hlen := (len_cons (len_cons (len_cons len_nil))))) (da_cons (de_add de_int (de_call (takes_of rfl rfl rfl rfl) (ok_law_take T) (hr.mono (by decide)) T.m44 T.k44 T.b44 (da_cons (de_var 0) (da_cons (de_var 1) (da_cons de_int da_nil))) (hlen := (len_cons (len_cons (len_cons len_nil)))))) (da_cons (de_var 5) (da_cons (de_var 4) da_nil)))))))))))))))
theorem ok_law_shuffled (T : Txt K mg fa fd) : DFn P w K mg base 3 (fa 50) (fd 50) ["row", "spot", "many"] F_law_shuffled :=
  dfn_of (k := 2) (body := b_law_shuffled) T.u50 sc_law_shuffled fun cdv A outer s H E hr => by
    have hu := hr.units
    exact (dss_cons (ds_own 3 sc_law_shuffled.nd (dn_listRg rfl T.z_list T.z_range (de_var 2)))
 (dss_cons (ds_own 4 sc_law_shuffled.nd (dn_lst da_nil))
 (dss_cons (ds_for rfl (di_range1 T.z_range (da_cons (de_var 2) da_nil)) (dg_name 5 sc_law_shuffled.nd)
 (dss_one (ds_expr (de_meth PySem.F.slot_list_append PySem.F.type_list_append mt_append mut_append 4 (da_cons (de_meth PySem.F.slot_list_pop PySem.F.type_list_pop mt_popAt mut_popAt 3 (da_cons (de_call (takes_of rfl rfl rfl rfl) (ok_law_take T) (hr.mono (by decide)) T.m44 T.k44 T.b44 (da_cons (de_var 0) (da_cons (de_var 1) (da_cons (de_len T.z_len (db_var 3)) da_nil))) (hlen := (len_cons (len_cons (len_cons len_nil))))) da_nil)) da_nil)))))
 (dss_one (ds_ret (de_var 4))))))
theorem ok_law_sound_net (T : Txt K mg fa fd) : DFn P w K mg base 5 (fa 63) (fd 63) ["row", "spot"] F_law_sound_net :=
  dfn_of (k := 4) (body := b_law_sound_net) T.u63 sc_law_sound_net fun cdv A outer s H E hr => by
    have hu := hr.units
    exact (dss_cons (ds_own 2 sc_law_sound_net.nd (dn_lst (da_cons (de_tup (da_cons de_int (da_cons de_int da_nil))) da_nil)))
 (dss_cons (ds_own 3 sc_law_sound_net.nd (dn_lst da_nil))
 (dss_cons (ds_set 4 sc_law_sound_net.nd de_int)
 (dss_cons (ds_for rfl (di_range1 T.z_range (da_cons de_int da_nil)) (dg_name 5 sc_law_sound_net.nd)
 (dss_cons (ds_if (dt_w (dw_or (dt_cmp (op_eqA hu) bs_eq (de_len T.z_len (db_var 2)) de_int) (dw_or1 (dt_cmp op_ge bs_cmp (de_add (de_len T.z_len (db_var 3)) (de_len T.z_len (db_var 2))) de_int))))
 (dss_one ds_break)
 dss_nil)
 (dss_cons (ds_asg (de_meth PySem.F.slot_list_pop PySem.F.type_list_pop mt_popAt mut_popAt 2 (da_cons (de_call (takes_of rfl rfl rfl rfl) (ok_law_take T) (hr.mono (by decide)) T.m44 T.k44 T.b44 (da_cons (de_var 0) (da_cons (de_var 1) (da_cons (de_len T.z_len (db_var 2)) da_nil))) (hlen := (len_cons (len_cons (len_cons len_nil))))) da_nil)) (dg_tup rfl (dgs_cons (dg_name 13 sc_law_sound_net.nd) (dgs_cons (dg_name 14 sc_law_sound_net.nd) dgs_nil))))
 (dss_cons (ds_set 12 sc_law_sound_net.nd (de_call (takes_of rfl rfl rfl rfl) (ok_law_take T) (hr.mono (by decide)) T.m44 T.k44 T.b44 (da_cons (de_var 0) (da_cons (de_var 1) (da_cons de_int da_nil))) (hlen := (len_cons (len_cons (len_cons len_nil))))))
 (dss_one (ds_if (dt_w (dw_and (dt_cmp (op_eqA hu) bs_eq (de_var 12) de_int) (dw_and1 (dt_cmp op_lt bs_cmp (de_var 4) de_int))))
 (dss_cons (ds_own 2 sc_law_sound_net.nd (dn_catV 2 (dlo_new (dn_lst (da_cons (de_tup (da_cons (de_var 13) (da_cons (de_var 4) da_nil))) (da_cons (de_tup (da_cons (de_var 4) (da_cons (de_var 14) da_nil))) da_nil))))))
 (dss_one (ds_set 4 sc_law_sound_net.nd (de_add (de_var 4) de_int))))
 (dss_one (ds_if (dt_w (dw_and (dt_cmp (op_eqA hu) bs_eq (de_var 12) de_int) (dw_and1 (dt_cmp op_lt bs_cmp (de_add (de_len T.z_len (db_var 3)) (de_len T.z_len (db_var 2))) de_int))))
 (dss_one (ds_for rfl (di_range1 T.z_range (da_cons de_int da_nil)) (dg_name 9 sc_law_sound_net.nd)
 (dss_one (ds_expr (de_meth PySem.F.slot_list_append PySem.F.type_list_append mt_append mut_append 3 (da_cons (de_new (dn_lst (da_cons (de_call (takes_of rfl rfl rfl rfl) (ok_law_kind T) (hr.mono (by decide)) T.m62 T.k62 T.b62 (da_cons (de_var 0) (da_cons (de_var 1) (da_cons de_bl da_nil))) (hlen := (len_cons (len_cons (len_cons len_nil))))) (da_cons (de_new (dn_lst (da_cons (de_var 13) da_nil))) (da_cons (de_new (dn_lst (da_cons (de_var 14) da_nil))) da_nil))))) da_nil))))))
 (dss_one (ds_if (dt_w (dw_and (dt_cmp (op_eqA hu) bs_eq (de_var 12) de_int) (dw_and (dt_cmp op_lt bs_cmp (de_var 4) de_int) (dw_and1 (dt_cmp op_lt bs_cmp (de_add (de_len T.z_len (db_var 3)) (de_len T.z_len (db_var 2))) de_int)))))
 (dss_cons (ds_expr (de_meth PySem.F.slot_list_append PySem.F.type_list_append mt_append mut_append 3 (da_cons (de_new (dn_lst (da_cons (de_call (takes_of rfl rfl rfl rfl) (ok_law_kind T) (hr.mono (by decide)) T.m62 T.k62 T.b62 (da_cons (de_var 0) (da_cons (de_var 1) (da_cons de_bl da_nil))) (hlen := (len_cons (len_cons (len_cons len_nil))))) (da_cons (de_new (dn_lst (da_cons (de_var 13) da_nil))) (da_cons (de_new (dn_lst (da_cons (de_var 4) (da_cons (de_add (de_var 4) de_int) da_nil)))) da_nil))))) da_nil)))
 (dss_cons (ds_expr (de_meth PySem.F.slot_list_append PySem.F.type_list_append mt_append mut_append 3 (da_cons (de_new (dn_lst (da_cons (de_call (takes_of rfl rfl rfl rfl) (ok_law_kind T) (hr.mono (by decide)) T.m62 T.k62 T.b62 (da_cons (de_var 0) (da_cons (de_var 1) (da_cons de_bl da_nil))) (hlen := (len_cons (len_cons (len_cons len_nil))))) (da_cons (de_new (dn_lst (da_cons (de_add (de_var 4) de_int) (da_cons (de_add (de_var 4) de_int) da_nil)))) (da_cons (de_new (dn_lst (da_cons (de_var 14) da_nil))) da_nil))))) da_nil)))
 (dss_cons (ds_own 2 sc_law_sound_net.nd (dn_catV 2 (dlo_new (dn_lst (da_cons (de_tup (da_cons (de_var 4) (da_cons (de_add (de_var 4) de_int) da_nil))) (da_cons (de_tup (da_cons (de_add (de_var 4) de_int) (da_cons (de_add (de_var 4) de_int) da_nil))) da_nil))))))
 (dss_one (ds_set 4 sc_law_sound_net.nd (de_add (de_var 4) de_int))))))
 (dss_one (ds_if (dt_w (dw_and (dt_cmp (op_eqA hu) bs_eq (de_var 12) de_int) (dw_and (dt_cmp op_lt bs_cmp (de_var 4) de_int) (dw_and1 (dt_cmp op_lt bs_cmp (de_add (de_len T.z_len (db_var 3)) (de_len T.z_len (db_var 2))) de_int)))))
 (dss_cons (ds_expr (de_meth PySem.F.slot_list_append PySem.F.type_list_append mt_append mut_append 2 (da_cons (de_tup (da_cons (de_var 13) (da_cons (de_var 4) da_nil))) da_nil)))
 (dss_cons (ds_expr (de_meth PySem.F.slot_list_append PySem.F.type_list_append mt_append mut_append 3 (da_cons (de_new (dn_lst (da_cons (de_call (takes_of rfl rfl rfl rfl) (ok_law_kind T) (hr.mono (by decide)) T.m62 T.k62 T.b62 (da_cons (de_var 0) (da_cons (de_var 1) (da_cons de_bl da_nil))) (hlen := (len_cons (len_cons (len_cons len_nil))))) (da_cons (de_new (dn_lst (da_cons (de_var 4) da_nil))) (da_cons (de_new (dn_lst (da_cons (de_var 13) da_nil))) da_nil))))) da_nil)))
 (dss_cons (ds_expr (de_meth PySem.F.slot_list_append PySem.F.type_list_append mt_append mut_append 3 (da_cons (de_new (dn_lst (da_cons (de_call (takes_of rfl rfl rfl rfl) (ok_law_kind T) (hr.mono (by decide)) T.m62 T.k62 T.b62 (da_cons (de_var 0) (da_cons (de_var 1) (da_cons de_bl da_nil))) (hlen := (len_cons (len_cons (len_cons len_nil))))) (da_cons (de_new (dn_lst (da_cons (de_var 4) da_nil))) (da_cons (de_new (dn_lst (da_cons (de_var 14) da_nil))) da_nil))))) da_nil)))
 (dss_one (ds_set 4 sc_law_sound_net.nd (de_add (de_var 4) de_int))))))
 (dss_one (ds_expr (de_meth PySem.F.slot_list_append PySem.F.type_list_append mt_append mut_append 3 (da_cons (de_new (dn_lst (da_cons (de_call (takes_of rfl rfl rfl rfl) (ok_law_kind T) (hr.mono (by decide)) T.m62 T.k62 T.b62 (da_cons (de_var 0) (da_cons (de_var 1) (da_cons de_bl da_nil))) (hlen := (len_cons (len_cons (len_cons len_nil))))) (da_cons (de_new (dn_lst (da_cons (de_var 13) da_nil))) (da_cons (de_new (dn_lst (da_cons (de_var 14) da_nil))) da_nil))))) da_nil))))))))))))))))
 (dss_cons (ds_for rfl (di_seq (de_var 2)) (dg_tup rfl (dgs_cons (dg_name 13 sc_law_sound_net.nd) (dgs_cons (dg_name 14 sc_law_sound_net.nd) dgs_nil)))
 (dss_one (ds_expr (de_meth PySem.F.slot_list_append PySem.F.type_list_append mt_append mut_append 3 (da_cons (de_new (dn_lst (da_cons (de_call (takes_of rfl rfl rfl rfl) (ok_law_kind T) (hr.mono (by decide)) T.m62 T.k62 T.b62 (da_cons (de_var 0) (da_cons (de_var 1) (da_cons de_bl da_nil))) (hlen := (len_cons (len_cons (len_cons len_nil))))) (da_cons (de_new (dn_lst (da_cons (de_var 13) da_nil))) (da_cons (de_new (dn_lst (da_cons (de_var 14) da_nil))) da_nil))))) da_nil)))))
 (dss_cons (ds_setLc 6 [("k", 9)] rfl sc_law_sound_net.nd (di_seq (de_call (takes_of rfl rfl rfl rfl) (ok_law_shuffled T) (hr.mono (by decide)) T.m50 T.k50 T.b50 (da_cons (de_var 0) (da_cons (de_var 1) (da_cons de_int da_nil))) (hlen := (len_cons (len_cons (len_cons len_nil)))))) (blkOk_by (by kernel_rfl)) (fun _ _ _ _ _ => (dg_name 9 sc_law_sound_net.nd)) (fun _ _ _ _ _ => dts_nil) (fun _ _ _ _ _ => (de_ix (de_new (dn_lst (da_cons de_str (da_cons de_str (da_cons de_str (da_cons de_str (da_cons de_str (da_cons de_str (da_cons de_str (da_cons de_str (da_cons de_str (da_cons de_str da_nil)))))))))))) (de_var 9))) (sw_true rfl rfl rfl (by decide +kernel)))
 (dss_cons (ds_set 7 sc_law_sound_net.nd (de_call (takes_of rfl rfl rfl rfl) (ok_law_shuffled T) (hr.mono (by decide)) T.m50 T.k50 T.b50 (da_cons (de_var 0) (da_cons (de_var 1) (da_cons (de_len T.z_len (db_var 3)) da_nil))) (hlen := (len_cons (len_cons (len_cons len_nil))))))
 (dss_cons (ds_own 8 sc_law_sound_net.nd (dn_lst da_nil))
 (dss_cons (ds_for rfl (di_range1 T.z_range (da_cons (de_len T.z_len (db_var 3)) da_nil)) (dg_name 9 sc_law_sound_net.nd)
 (dss_cons (ds_asg (de_ixV 3 (de_ixV 7 (de_var 9))) (dg_tup rfl (dgs_cons (dg_name 15 sc_law_sound_net.nd) (dgs_cons (dg_name 16 sc_law_sound_net.nd) (dgs_cons (dg_name 17 sc_law_sound_net.nd) dgs_nil)))))
 (dss_one (ds_expr (de_meth PySem.F.slot_list_append PySem.F.type_list_append mt_append mut_append 8 (da_cons (de_tup (da_cons (de_ixV 6 (de_var 9)) (da_cons (de_var 15) (da_cons (de_tuple T.z_tuple (db_of (de_new (dn_sortedI T.z_sorted (dl_of (db_var 16)))))) (da_cons (de_tuple T.z_tuple (db_of (de_new (dn_sortedI T.z_sorted (dl_of (db_var 17)))))) da_nil))))) da_nil))))))
 (dss_cons (ds_own 10 sc_law_sound_net.nd (dn_lst da_nil))
 (dss_cons (ds_for rfl (di_seq (de_var 8)) (dg_name 11 sc_law_sound_net.nd)
 (dss_cons (ds_if (dt_cmp (op_eqA hu) bs_eq (de_call (takes_of rfl rfl rfl rfl) (ok_law_take T) (hr.mono (by decide)) T.m44 T.k44 T.b44 (da_cons (de_var 0) (da_cons (de_var 1) (da_cons (de_if (dt_cmp (op_eqA hu) bs_eq (de_ixV 11 de_int) (de_tup (da_cons de_str da_nil))) de_int de_int) da_nil))) (hlen := (len_cons (len_cons (len_cons len_nil))))) de_int)
 (dss_one (ds_if (dt_cmp (op_eqA hu) bs_eq (de_len T.z_len (db_of (de_new (dn_lc [("other", 18)] rfl sc_law_sound_net.nd (di_seq (de_var 8)) (blkOk_by (by kernel_rfl)) (fun _ _ _ _ _ => (dg_name 18 sc_law_sound_net.nd)) (fun _ _ _ _ _ => (dts_one (dt_w (dw_and (dt_cmp (op_neA hu) bs_ne (de_var 18) (de_var 11)) (dw_and1 (dt_cmp op_gt bs_cmp (de_len T.z_len (db_of (de_new (dn_lc [("place", 19)] rfl sc_law_sound_net.nd (di_seq (de_ixV 11 de_int)) (blkOk_by (by kernel_rfl)) (fun _ _ _ _ _ => (dg_name 19 sc_law_sound_net.nd)) (fun _ _ _ _ _ => (dts_one (dt_cmpR (op_inX (hu65 hr)) (br_in false) (de_var 19) (db_of (de_ixV 18 de_int))))) (fun _ _ _ _ _ => (de_var 19)))))) de_int)))))) (fun _ _ _ _ _ => (de_var 18)))))) de_int)
 (dss_one (ds_set 11 sc_law_sound_net.nd (de_add (de_tup (da_cons (de_ixV 11 de_int) (da_cons (de_tup (da_cons de_str da_nil)) da_nil))) (de_slice (de_var 11) (do_some de_int) do_none))))
 dss_nil))
 dss_nil)
 (dss_one (ds_expr (de_meth PySem.F.slot_list_append PySem.F.type_list_append mt_append mut_append 10 (da_cons (de_var 11) da_nil))))))
 (dss_cons (ds_if (dt_val (de_call (takes_of rfl rfl rfl rfl) (ok_law_is_round T) (hr.mono (by decide)) T.m57 T.k57 T.b57 (da_cons (de_var 10) da_nil) (hlen := (len_cons len_nil))))
 (dss_one (ds_ownLc 10 [("step", 11)] rfl sc_law_sound_net.nd (di_seq (de_var 10)) (blkOk_by (by kernel_rfl)) (fun _ _ _ _ _ => (dg_name 11 sc_law_sound_net.nd)) (fun _ _ _ _ _ => dts_nil) (fun _ _ _ _ _ => (de_add (de_tup (da_cons (de_ixV 11 de_int) (da_cons (de_if (dt_cmp (op_eqA hu) bs_eq (de_ix (de_ixV 11 de_int) de_int) de_str) (de_tup (da_cons de_str da_nil)) (de_ixV 11 de_int)) da_nil))) (de_slice (de_var 11) (do_some de_int) do_none))) (sw_true rfl rfl rfl (by decide +kernel))))
 dss_nil)
 (dss_one (ds_ret (de_tup (da_cons (de_var 4) (da_cons (de_tuple T.z_tuple (db_var 10)) da_nil)))))))))))))))))
theorem ok_law_whole (T : Txt K mg fa fd) : DFn P w K mg base 1 (fa 45) (fd 45) ["value"] F_law_whole :=
  dfn_of (k := 0) (body := b_law_whole) T.u45 sc_law_whole fun cdv A outer s H E hr => by
    have hu := hr.units
    exact (dss_one (ds_ret (de_and (de_isi .int T.z_isinstance T.z_int boot_int (db_var 0)) (de_one (de_not (de_isi .bool T.z_isinstance T.z_bool boot_bool (db_var 0)))))))
theorem ok_law_between (T : Txt K mg fa fd) : DFn P w K mg base 2 (fa 52) (fd 52) ["value", "least", "most"] F_law_between :=
  dfn_of (k := 1) (body := b_law_between) T.u52 sc_law_between fun cdv A outer s H E hr => by
    have hu := hr.units
    exact (dss_one (ds_ret (de_and (de_call (takes_of rfl rfl rfl rfl) (ok_law_whole T) (hr.mono (by decide)) T.m45 T.k45 T.b45 (da_cons (de_var 0) da_nil) (hlen := (len_cons len_nil))) (de_one (de_chain op_le op_le bs_cmp bs_cmp (de_var 1) (de_var 0) (de_var 2))))))
theorem ok_law_rising (T : Txt K mg fa fd) : DFn P w K mg base 3 (fa 53) (fd 53) ["value", "least", "most"] F_law_rising :=
  dfn_of (k := 2) (body := b_law_rising) T.u53 sc_law_rising fun cdv A outer s H E hr => by
    have hu := hr.units
    exact (dss_cons (ds_if (dt_w (dw_or (dt_not (dt_val (de_isi .tuple T.z_isinstance T.z_tuple boot_tuple (db_var 0)))) (dw_or1 (dt_cmp op_gt bs_cmp (de_len T.z_len (db_of (de_new (dn_lc [("one", 4)] rfl sc_law_rising.nd (di_seq (de_var 0)) (blkOk_by (by kernel_rfl)) (fun _ _ _ _ _ => (dg_name 4 sc_law_rising.nd)) (fun _ _ _ _ _ => (dts_one (dt_not (dt_val (de_call takes0 (ok_law_between T) (hr.mono (by decide)) T.m52 T.k52 T.b52 (da_cons (de_var 4) (da_cons (de_var 1) (da_cons (de_var 2) da_nil))) (hlen := (len_cons (len_cons (len_cons len_nil))))))))) (fun _ _ _ _ _ => (de_var 4)))))) de_int))))
 (dss_one (ds_ret de_bl))
 dss_nil)
 (dss_one (ds_ret (de_cmp (op_eqA hu) bs_eq (de_len T.z_len (db_of (de_new (dn_lc [("k", 3)] rfl sc_law_rising.nd (di_range2 T.z_range (da_cons de_int (da_cons (de_len T.z_len (db_var 0)) da_nil))) (blkOk_by (by kernel_rfl)) (fun _ _ _ _ _ => (dg_name 3 sc_law_rising.nd)) (fun _ _ _ _ _ => (dts_one (dt_cmp op_ge bs_cmp (de_ixV 0 (de_sub (de_var 3) de_int)) (de_ixV 0 (de_var 3))))) (fun _ _ _ _ _ => (de_var 3)))))) de_int))))
theorem ok_law_is_calendar (T : Txt K mg fa fd) : DFn P w K mg base 4 (fa 54) (fd 54) ["value"] F_law_is_calendar :=
  dfn_of (k := 3) (body := b_law_is_calendar) T.u54 sc_law_is_calendar fun cdv A outer s H E hr => by
    have hu := hr.units
    exact (dss_cons (ds_if (dt_cmp op_isND bs_isN (de_var 0) de_non)
 (dss_one (ds_ret de_bl))
 dss_nil)
 (dss_cons (ds_if (dt_w (dw_or (dt_not (dt_val (de_isi .tuple T.z_isinstance T.z_tuple boot_tuple (db_var 0)))) (dw_or (dt_cmp (op_neA hu) bs_ne (de_len T.z_len (db_var 0)) de_int) (dw_or1 (dt_not (dt_val (de_call (takes_of rfl rfl rfl rfl) (ok_law_between T) (hr.mono (by decide)) T.m52 T.k52 T.b52 (da_cons (de_ixV 0 de_int) (da_cons de_int (da_cons de_int da_nil))) (hlen := (len_cons (len_cons (len_cons len_nil)))))))))))
 (dss_one (ds_ret de_bl))
 dss_nil)
 (dss_one (ds_ret (de_and (de_call (takes_of rfl rfl rfl rfl) (ok_law_rising T) (hr.mono (by decide)) T.m53 T.k53 T.b53 (da_cons (de_ixV 0 de_int) (da_cons de_int (da_cons (de_sub (de_ixV 0 de_int) de_int) da_nil))) (hlen := (len_cons (len_cons (len_cons len_nil))))) (de_one (de_cmp op_gt bs_cmp (de_len T.z_len (db_of (de_ixV 0 de_int))) de_int)))))))
theorem ok_law_is_word (T : Txt K mg fa fd) : DFn P w K mg base 1 (fa 51) (fd 51) ["value"] F_law_is_word :=
  dfn_of (k := 0) (body := b_law_is_word) T.u51 sc_law_is_word fun cdv A outer s H E hr => by
    have hu := hr.units
    exact (dss_cons (ds_if (dt_w (dw_or (dt_not (dt_val (de_isi .str T.z_isinstance T.z_str boot_str (db_var 0)))) (dw_or1 (dt_not (dt_chain op_le op_le bs_cmp bs_cmp de_int (de_len T.z_len (db_var 0)) de_int)))))
 (dss_one (ds_ret de_bl))
 dss_nil)
 (dss_one (ds_ret (de_cmp (op_eqA hu) bs_eq (de_len T.z_len (db_of (de_new (dn_lc [("one", 1)] rfl sc_law_is_word.nd (di_seq (de_var 0)) (blkOk_by (by kernel_rfl)) (fun _ _ _ _ _ => (dg_name 1 sc_law_is_word.nd)) (fun _ _ _ _ _ => (dts_one (dt_cmpR (op_ninX (hu65 hr)) (br_in true) (de_var 1) (db_of de_str)))) (fun _ _ _ _ _ => (de_var 1)))))) de_int))))
theorem ok_law_is_kind (T : Txt K mg fa fd) : DFn P w K mg base 5 (fa 55) (fd 55) ["value"] F_law_is_kind :=
  dfn_of (k := 4) (body := b_law_is_kind) T.u55 sc_law_is_kind fun cdv A outer s H E hr => by
    have hu := hr.units
    exact (dss_cons (ds_if (dt_w (dw_or (dt_not (dt_val (de_isi .tuple T.z_isinstance T.z_tuple boot_tuple (db_var 0)))) (dw_or (dt_cmp (op_eqA hu) bs_eq (de_len T.z_len (db_var 0)) de_int) (dw_or1 (dt_not (dt_val (de_isi .str T.z_isinstance T.z_str boot_str (db_of (de_ixV 0 de_int)))))))))
 (dss_one (ds_ret de_bl))
 dss_nil)
 (dss_cons (ds_if (dt_cmpR (op_inX (hu65 hr)) (br_in false) (de_ixV 0 de_int) (db_of (de_tup (da_cons de_str (da_cons de_str da_nil)))))
 (dss_one (ds_ret (de_cmp (op_eqA hu) bs_eq (de_len T.z_len (db_var 0)) de_int)))
 dss_nil)
 (dss_cons (ds_if (dt_cmp (op_eqA hu) bs_eq (de_ixV 0 de_int) de_str)
 (dss_one (ds_ret (de_and (de_cmp (op_eqA hu) bs_eq (de_len T.z_len (db_var 0)) de_int) (de_one (de_call (takes_of rfl rfl rfl rfl) (ok_law_is_word T) (hr.mono (by decide)) T.m51 T.k51 T.b51 (da_cons (de_ixV 0 de_int) da_nil) (hlen := (len_cons len_nil)))))))
 dss_nil)
 (dss_cons (ds_if (dt_cmp (op_eqA hu) bs_eq (de_ixV 0 de_int) de_str)
 (dss_one (ds_ret (de_and (de_cmp (op_eqA hu) bs_eq (de_len T.z_len (db_var 0)) de_int) (de_and (de_call (takes_of rfl rfl rfl rfl) (ok_law_between T) (hr.mono (by decide)) T.m52 T.k52 T.b52 (da_cons (de_ixV 0 de_int) (da_cons de_int (da_cons de_int da_nil))) (hlen := (len_cons (len_cons (len_cons len_nil))))) (de_one (de_call (takes_of rfl rfl rfl rfl) (ok_law_is_calendar T) (hr.mono (by decide)) T.m54 T.k54 T.b54 (da_cons (de_ixV 0 de_int) da_nil) (hlen := (len_cons len_nil))))))))
 dss_nil)
 (dss_cons (ds_if (dt_w (dw_or (dt_cmp (op_neA hu) bs_ne (de_ixV 0 de_int) de_str) (dw_or (dt_cmp (op_neA hu) bs_ne (de_len T.z_len (db_var 0)) de_int) (dw_or1 (dt_not (dt_val (de_call (takes_of rfl rfl rfl rfl) (ok_law_is_word T) (hr.mono (by decide)) T.m51 T.k51 T.b51 (da_cons (de_ixV 0 de_int) da_nil) (hlen := (len_cons len_nil)))))))))
 (dss_one (ds_ret de_bl))
 dss_nil)
 (dss_one (ds_ret (de_and (de_call (takes_of rfl rfl rfl rfl) (ok_law_between T) (hr.mono (by decide)) T.m52 T.k52 T.b52 (da_cons (de_ixV 0 de_int) (da_cons de_int (da_cons de_int da_nil))) (hlen := (len_cons (len_cons (len_cons len_nil))))) (de_and (de_call (takes_of rfl rfl rfl rfl) (ok_law_between T) (hr.mono (by decide)) T.m52 T.k52 T.b52 (da_cons (de_ixV 0 de_int) (da_cons de_int (da_cons de_int da_nil))) (hlen := (len_cons (len_cons (len_cons len_nil))))) (de_one (de_or (de_cmp op_isND bs_isN (de_ixV 0 de_int) de_non) (de_one (de_call (takes_of rfl rfl rfl rfl) (ok_law_is_word T) (hr.mono (by decide)) T.m51 T.k51 T.b51 (da_cons (de_ixV 0 de_int) da_nil) (hlen := (len_cons len_nil)))))))))))))))
theorem ok_law_is_net (T : Txt K mg fa fd) : DFn P w K mg base 6 (fa 56) (fd 56) ["value"] F_law_is_net :=
  dfn_of (k := 5) (body := b_law_is_net) T.u56 sc_law_is_net fun cdv A outer s H E hr => by
    have hu := hr.units
    exact (dss_cons (ds_if (dt_w (dw_or (dt_not (dt_val (de_isi .tuple T.z_isinstance T.z_tuple boot_tuple (db_var 0)))) (dw_or (dt_cmp (op_neA hu) bs_ne (de_len T.z_len (db_var 0)) de_int) (dw_or1 (dt_not (dt_val (de_call (takes_of rfl rfl rfl rfl) (ok_law_between T) (hr.mono (by decide)) T.m52 T.k52 T.b52 (da_cons (de_ixV 0 de_int) (da_cons de_int (da_cons de_int da_nil))) (hlen := (len_cons (len_cons (len_cons len_nil)))))))))))
 (dss_one (ds_ret de_bl))
 dss_nil)
 (dss_cons (ds_if (dt_w (dw_or (dt_not (dt_val (de_isi .tuple T.z_isinstance T.z_tuple boot_tuple (db_of (de_ixV 0 de_int))))) (dw_or1 (dt_cmp op_gt bs_cmp (de_len T.z_len (db_of (de_ixV 0 de_int))) de_int))))
 (dss_one (ds_ret de_bl))
 dss_nil)
 (dss_cons (ds_own 1 sc_law_is_net.nd (dn_lst da_nil))
 (dss_cons (ds_for rfl (di_seq (de_ixV 0 de_int)) (dg_name 2 sc_law_is_net.nd)
 (dss_cons (ds_if (dt_w (dw_or (dt_not (dt_val (de_isi .tuple T.z_isinstance T.z_tuple boot_tuple (db_var 2)))) (dw_or (dt_cmp (op_neA hu) bs_ne (de_len T.z_len (db_var 2)) de_int) (dw_or (dt_not (dt_val (de_call (takes_of rfl rfl rfl rfl) (ok_law_is_word T) (hr.mono (by decide)) T.m51 T.k51 T.b51 (da_cons (de_ixV 2 de_int) da_nil) (hlen := (len_cons len_nil))))) (dw_or (dt_cmpR (op_inX (hu65 hr)) (br_in false) (de_ixV 2 de_int) (db_var 1)) (dw_or1 (dt_not (dt_val (de_call (takes_of rfl rfl rfl rfl) (ok_law_is_kind T) (hr.mono (by decide)) T.m55 T.k55 T.b55 (da_cons (de_ixV 2 de_int) da_nil) (hlen := (len_cons len_nil)))))))))))
 (dss_one (ds_ret de_bl))
 dss_nil)
 (dss_cons (ds_expr (de_meth PySem.F.slot_list_append PySem.F.type_list_append mt_append mut_append 1 (da_cons (de_ixV 2 de_int) da_nil)))
 (dss_cons (ds_for rfl (di_seq (de_slice (de_var 2) (do_some de_int) do_none)) (dg_name 3 sc_law_is_net.nd)
 (dss_one (ds_if (dt_w (dw_or (dt_not (dt_val (de_call (takes_of rfl rfl rfl rfl) (ok_law_rising T) (hr.mono (by decide)) T.m53 T.k53 T.b53 (da_cons (de_var 3) (da_cons de_int (da_cons (de_sub (de_ixV 0 de_int) de_int) da_nil))) (hlen := (len_cons (len_cons (len_cons len_nil))))))) (dw_or1 (dt_cmp (op_eqA hu) bs_eq (de_len T.z_len (db_var 3)) de_int))))
 (dss_one (ds_ret de_bl))
 dss_nil)))
 (dss_one (ds_if (dt_cmpR (op_inX (hu65 hr)) (br_in false) de_int (db_of (de_ixV 2 de_int)))
 (dss_one (ds_ret de_bl))
 dss_nil))))))
 (dss_cons (ds_for rfl (di_seq (de_ixV 0 de_int)) (dg_name 2 sc_law_is_net.nd)
 (dss_one (ds_for rfl (di_seq (de_ixV 0 de_int)) (dg_name 4 sc_law_is_net.nd)
 (dss_one (ds_if (dt_w (dw_and (dt_cmp (op_eqA hu) bs_eq (de_ixV 2 de_int) (de_tup (da_cons de_str da_nil))) (dw_and (dt_cmp (op_neA hu) bs_ne (de_var 4) (de_var 2)) (dw_and1 (dt_cmp op_gt bs_cmp (de_len T.z_len (db_of (de_new (dn_lc [("place", 5)] rfl sc_law_is_net.nd (di_seq (de_ixV 2 de_int)) (blkOk_by (by kernel_rfl)) (fun _ _ _ _ _ => (dg_name 5 sc_law_is_net.nd)) (fun _ _ _ _ _ => (dts_one (dt_cmpR (op_inX (hu65 hr)) (br_in false) (de_var 5) (db_of (de_ixV 4 de_int))))) (fun _ _ _ _ _ => (de_var 5)))))) de_int)))))
 (dss_one (ds_ret de_bl))
 dss_nil)))))
 (dss_one (ds_ret (de_not (de_call (takes_of rfl rfl rfl rfl) (ok_law_is_round T) (hr.mono (by decide)) T.m57 T.k57 T.b57 (da_cons (de_ixV 0 de_int) da_nil) (hlen := (len_cons len_nil)))))))))))
theorem ok_law_toggled (T : Txt K mg fa fd) : DFn P w K mg base 1 (fa 64) (fd 64) ["places", "place"] F_law_toggled :=
  dfn_of (k := 0) (body := b_law_toggled) T.u64 sc_law_toggled fun cdv A outer s H E hr => by
    have hu := hr.units
    exact (dss_one (ds_ret (de_tuple T.z_tuple (db_of (de_new (dn_sortedI T.z_sorted (dl_new (dn_cat (de_new (dn_lc [("one", 2)] rfl sc_law_toggled.nd (di_seq (de_var 0)) (blkOk_by (by kernel_rfl)) (fun _ _ _ _ _ => (dg_name 2 sc_law_toggled.nd)) (fun _ _ _ _ _ => (dts_one (dt_cmp (op_neA hu) bs_ne (de_var 2) (de_var 1)))) (fun _ _ _ _ _ => (de_var 2)))) (dlo_of (db_of (de_if (dt_cmpR (op_inX (hu65 hr)) (br_in false) (de_var 1) (db_var 0)) (de_new (dn_lst da_nil)) (de_new (dn_lst (da_cons (de_var 1) da_nil))))))))))))))
theorem ok_law_spoilt (T : Txt K mg fa fd) : DFn P w K mg base 5 (fa 66) (fd 66) ["row", "spot", "net"] F_law_spoilt :=
  dfn_of (k := 4) (body := b_law_spoilt) T.u66 sc_law_spoilt fun cdv A outer s H E hr => by
    have hu := hr.units
    exact (dss_cons (ds_own 3 sc_law_spoilt.nd (dn_list T.z_list (dq_of (db_of (de_ixV 2 de_int)))))
 (dss_cons (ds_set 4 sc_law_spoilt.nd (de_call (takes_of rfl rfl rfl rfl) (ok_law_take T) (hr.mono (by decide)) T.m44 T.k44 T.b44 (da_cons (de_var 0) (da_cons (de_var 1) (da_cons de_int da_nil))) (hlen := (len_cons (len_cons (len_cons len_nil))))))
 (dss_cons (ds_set 5 sc_law_spoilt.nd (de_call (takes_of rfl rfl rfl rfl) (ok_law_take T) (hr.mono (by decide)) T.m44 T.k44 T.b44 (da_cons (de_var 0) (da_cons (de_var 1) (da_cons (de_callB (call_max2 rfl) cal_max T.z_max boot_max (da_cons de_int (da_cons (de_len T.z_len (db_var 3)) da_nil))) da_nil))) (hlen := (len_cons (len_cons (len_cons len_nil))))))
 (dss_cons (ds_set 6 sc_law_spoilt.nd (de_call (takes_of rfl rfl rfl rfl) (ok_law_take T) (hr.mono (by decide)) T.m44 T.k44 T.b44 (da_cons (de_var 0) (da_cons (de_var 1) (da_cons (de_ixV 2 de_int) da_nil))) (hlen := (len_cons (len_cons (len_cons len_nil))))))
 (dss_cons (ds_if (dt_w (dw_and (dt_cmp (op_eqA hu) bs_eq (de_var 4) de_int) (dw_and1 (dt_cmp op_gt bs_cmp (de_len T.z_len (db_var 3)) de_int))))
 (dss_one (ds_expr (de_meth PySem.F.slot_list_pop PySem.F.type_list_pop mt_popAt mut_popAt 3 (da_cons (de_var 5) da_nil))))
 (dss_one (ds_if (dt_w (dw_and (dt_cmp (op_eqA hu) bs_eq (de_var 4) de_int) (dw_and1 (dt_cmp op_gt bs_cmp (de_len T.z_len (db_var 3)) de_int))))
 (dss_one (ds_ix 3 (de_add (de_slice (de_ixV 3 (de_var 5)) do_none (do_some de_int)) (de_tup (da_cons (de_call (takes_of rfl rfl rfl rfl) (ok_law_toggled T) (hr.mono (by decide)) T.m64 T.k64 T.b64 (da_cons (de_ix (de_ixV 3 (de_var 5)) de_int) (da_cons (de_var 6) da_nil)) (hlen := (len_cons (len_cons len_nil)))) da_nil))) (de_var 5)))
 (dss_one (ds_if (dt_w (dw_and (dt_cmp (op_eqA hu) bs_eq (de_var 4) de_int) (dw_and (dt_cmp op_gt bs_cmp (de_len T.z_len (db_var 3)) de_int) (dw_and1 (dt_cmp (op_neA hu) bs_ne (de_var 6) de_int)))))
 (dss_one (ds_ix 3 (de_add (de_add (de_slice (de_ixV 3 (de_var 5)) do_none (do_some de_int)) (de_tup (da_cons (de_call (takes_of rfl rfl rfl rfl) (ok_law_toggled T) (hr.mono (by decide)) T.m64 T.k64 T.b64 (da_cons (de_ix (de_ixV 3 (de_var 5)) de_int) (da_cons (de_var 6) da_nil)) (hlen := (len_cons (len_cons len_nil)))) da_nil))) (de_slice (de_ixV 3 (de_var 5)) (do_some de_int) do_none)) (de_var 5)))
 (dss_one (ds_if (dt_w (dw_and (dt_cmp (op_eqA hu) bs_eq (de_var 4) de_int) (dw_and1 (dt_cmp op_lt bs_cmp (de_len T.z_len (db_var 3)) de_int))))
 (dss_one (ds_expr (de_meth PySem.F.slot_list_insert PySem.F.type_list_insert mt_insert mut_insert 3 (da_cons (de_var 5) (da_cons (de_tup (da_cons de_str (da_cons (de_call (takes_of rfl rfl rfl rfl) (ok_law_kind T) (hr.mono (by decide)) T.m62 T.k62 T.b62 (da_cons (de_var 0) (da_cons (de_var 1) (da_cons de_bl da_nil))) (hlen := (len_cons (len_cons (len_cons len_nil))))) (da_cons (de_tup (da_cons de_int da_nil)) (da_cons (de_tup (da_cons (de_var 6) da_nil)) da_nil))))) da_nil)))))
 (dss_one (ds_if (dt_w (dw_and (dt_cmp (op_eqA hu) bs_eq (de_var 4) de_int) (dw_and1 (dt_cmp op_lt bs_cmp (de_len T.z_len (db_var 3)) de_int))))
 (dss_one (ds_expr (de_meth PySem.F.slot_list_append PySem.F.type_list_append mt_append mut_append 3 (da_cons (de_tup (da_cons de_str (da_cons (de_call (takes_of rfl rfl rfl rfl) (ok_law_kind T) (hr.mono (by decide)) T.m62 T.k62 T.b62 (da_cons (de_var 0) (da_cons (de_var 1) (da_cons de_bl da_nil))) (hlen := (len_cons (len_cons (len_cons len_nil))))) (da_cons (de_tup (da_cons (de_if (dt_cmp (op_neA hu) bs_ne (de_var 6) de_int) (de_callB (call_min2 rfl) cal_min T.z_min boot_min (da_cons (de_var 6) (da_cons (de_sub (de_ixV 2 de_int) de_int) da_nil))) de_int) da_nil)) (da_cons (de_tup (da_cons de_int da_nil)) da_nil))))) da_nil))))
 (dss_one (ds_ret (de_tup (da_cons (de_callB (call_min2 rfl) cal_min T.z_min boot_min (da_cons de_int (da_cons (de_add (de_ixV 2 de_int) de_int) da_nil))) (da_cons (de_ixV 2 de_int) da_nil))))))))))))))
 (dss_one (ds_ret (de_tup (da_cons (de_ixV 2 de_int) (da_cons (de_tuple T.z_tuple (db_var 3)) da_nil))))))))))
theorem ok_law_spoilt_net (T : Txt K mg fa fd) : DFn P w K mg base 7 (fa 65) (fd 65) ["row", "spot", "net"] F_law_spoilt_net :=
  dfn_of (k := 6) (body := b_law_spoilt_net) T.u65 sc_law_spoilt_net fun cdv A outer s H E hr => by
    have hu := hr.units
    exact (dss_cons (ds_set 3 sc_law_spoilt_net.nd (de_call (takes_of rfl rfl rfl rfl) (ok_law_spoilt T) (hr.mono (by decide)) T.m66 T.k66 T.b66 (da_cons (de_var 0) (da_cons (de_var 1) (da_cons (de_var 2) da_nil))) (hlen := (len_cons (len_cons (len_cons len_nil))))))
 (dss_one (ds_ret (de_if (dt_val (de_call (takes_of rfl rfl rfl rfl) (ok_law_is_net T) (hr.mono (by decide)) T.m56 T.k56 T.b56 (da_cons (de_var 3) da_nil) (hlen := (len_cons len_nil)))) (de_var 3) (de_var 2)))))
theorem ok_law_net (T : Txt K mg fa fd) : DFn P w K mg base 8 (fa 67) (fd 67) ["row", "spot"] F_law_net :=
  dfn_of (k := 7) (body := b_law_net) T.u67 sc_law_net fun cdv A outer s H E hr => by
    have hu := hr.units
    exact (dss_cons (ds_if (dt_cmp (op_eqA hu) bs_eq (de_call (takes_of rfl rfl rfl rfl) (ok_law_take T) (hr.mono (by decide)) T.m44 T.k44 T.b44 (da_cons (de_var 0) (da_cons (de_var 1) (da_cons de_int da_nil))) (hlen := (len_cons (len_cons (len_cons len_nil))))) de_int)
 (dss_cons (ds_parO 5 6 rfl sc_law_net.nd (de_add de_int (de_call (takes_of rfl rfl rfl rfl) (ok_law_take T) (hr.mono (by decide)) T.m44 T.k44 T.b44 (da_cons (de_var 0) (da_cons (de_var 1) (da_cons de_int da_nil))) (hlen := (len_cons (len_cons (len_cons len_nil)))))) (dn_lst da_nil))
 (dss_cons (ds_setLc 4 [("k", 3)] rfl sc_law_net.nd (di_seq (de_call (takes_of rfl rfl rfl rfl) (ok_law_shuffled T) (hr.mono (by decide)) T.m50 T.k50 T.b50 (da_cons (de_var 0) (da_cons (de_var 1) (da_cons de_int da_nil))) (hlen := (len_cons (len_cons (len_cons len_nil)))))) (blkOk_by (by kernel_rfl)) (fun _ _ _ _ _ => (dg_name 3 sc_law_net.nd)) (fun _ _ _ _ _ => dts_nil) (fun _ _ _ _ _ => (de_ix (de_new (dn_lst (da_cons de_str (da_cons de_str (da_cons de_str (da_cons de_str (da_cons de_str (da_cons de_str (da_cons de_str (da_cons de_str da_nil)))))))))) (de_var 3))) (sw_true rfl rfl rfl (by decide +kernel)))
 (dss_cons (ds_for rfl (di_range1 T.z_range (da_cons (de_call (takes_of rfl rfl rfl rfl) (ok_law_take T) (hr.mono (by decide)) T.m44 T.k44 T.b44 (da_cons (de_var 0) (da_cons (de_var 1) (da_cons de_int da_nil))) (hlen := (len_cons (len_cons (len_cons len_nil))))) da_nil)) (dg_name 3 sc_law_net.nd)
 (dss_cons (ds_own 7 sc_law_net.nd (dn_lst da_nil))
 (dss_cons (ds_for rfl (di_range1 T.z_range (da_cons de_int da_nil)) (dg_name 8 sc_law_net.nd)
 (dss_cons (ds_setLc 9 [("place", 11)] rfl sc_law_net.nd (di_range1 T.z_range (da_cons (de_var 5) da_nil)) (blkOk_by (by kernel_rfl)) (fun _ _ _ _ _ => (dg_name 11 sc_law_net.nd)) (fun _ _ _ _ _ => (dts_one (dt_w (dw_and (dt_cmp (op_eqA hu) bs_eq (de_call takes0 (ok_law_take T) (hr.mono (by decide)) T.m44 T.k44 T.b44 (da_cons (de_var 0) (da_cons (de_var 1) (da_cons de_int da_nil))) (hlen := (len_cons (len_cons (len_cons len_nil))))) de_int) (dw_and1 (dt_w (dw_or (dt_cmp (op_eqA hu) bs_eq (de_var 8) de_int) (dw_or1 (dt_cmp (op_neA hu) bs_ne (de_var 11) de_int))))))))) (fun _ _ _ _ _ => (de_var 11)) (sw_true rfl rfl rfl (by decide +kernel)))
 (dss_one (ds_expr (de_meth PySem.F.slot_list_append PySem.F.type_list_append mt_append mut_append 7 (da_cons (de_if (dt_cmp op_gt bs_cmp (de_len T.z_len (db_var 9)) de_int) (de_tuple T.z_tuple (db_var 9)) (de_tup (da_cons de_int da_nil))) da_nil))))))
 (dss_one (ds_expr (de_meth PySem.F.slot_list_append PySem.F.type_list_append mt_append mut_append 6 (da_cons (de_tup (da_cons (de_ixV 4 (de_var 3)) (da_cons (de_call (takes_of rfl rfl rfl rfl) (ok_law_kind T) (hr.mono (by decide)) T.m62 T.k62 T.b62 (da_cons (de_var 0) (da_cons (de_var 1) (da_cons de_bl da_nil))) (hlen := (len_cons (len_cons (len_cons len_nil))))) (da_cons (de_ixV 7 de_int) (da_cons (de_ixV 7 de_int) da_nil))))) da_nil)))))))
 (dss_cons (ds_if (dt_val (de_call (takes_of rfl rfl rfl rfl) (ok_law_is_round T) (hr.mono (by decide)) T.m57 T.k57 T.b57 (da_cons (de_var 6) da_nil) (hlen := (len_cons len_nil))))
 (dss_one (ds_ownLc 6 [("step", 10)] rfl sc_law_net.nd (di_seq (de_var 6)) (blkOk_by (by kernel_rfl)) (fun _ _ _ _ _ => (dg_name 10 sc_law_net.nd)) (fun _ _ _ _ _ => dts_nil) (fun _ _ _ _ _ => (de_add (de_tup (da_cons (de_ixV 10 de_int) (da_cons (de_tup (da_cons de_str da_nil)) da_nil))) (de_slice (de_var 10) (do_some de_int) do_none))) (sw_true rfl rfl rfl (by decide +kernel))))
 dss_nil)
 (dss_one (ds_ret (de_tup (da_cons (de_var 5) (da_cons (de_tuple T.z_tuple (db_var 6)) da_nil)))))))))
 dss_nil)
 (dss_cons (ds_set 2 sc_law_net.nd (de_call (takes_of rfl rfl rfl rfl) (ok_law_sound_net T) (hr.mono (by decide)) T.m63 T.k63 T.b63 (da_cons (de_var 0) (da_cons (de_var 1) da_nil)) (hlen := (len_cons (len_cons len_nil)))))
 (dss_cons (ds_for rfl (di_range1 T.z_range (da_cons (de_ix (de_new (dn_lst (da_cons de_int (da_cons de_int (da_cons de_int (da_cons de_int (da_cons de_int (da_cons de_int da_nil)))))))) (de_call (takes_of rfl rfl rfl rfl) (ok_law_take T) (hr.mono (by decide)) T.m44 T.k44 T.b44 (da_cons (de_var 0) (da_cons (de_var 1) (da_cons de_int da_nil))) (hlen := (len_cons (len_cons (len_cons len_nil)))))) da_nil)) (dg_name 3 sc_law_net.nd)
 (dss_one (ds_set 2 sc_law_net.nd (de_call (takes_of rfl rfl rfl rfl) (ok_law_spoilt_net T) (hr.mono (by decide)) T.m65 T.k65 T.b65 (da_cons (de_var 0) (da_cons (de_var 1) (da_cons (de_var 2) da_nil))) (hlen := (len_cons (len_cons (len_cons len_nil))))))))
 (dss_one (ds_ret (de_var 2))))))
theorem ok_law_numbers (T : Txt K mg fa fd) : DFn P w K mg base 1 (fa 42) (fd 42) ["script"] F_law_numbers :=
  dfn_of (k := 0) (body := b_law_numbers) T.u42 sc_law_numbers fun cdv A outer s H E hr => by
    have hu := hr.units
    exact (dss_cons (ds_own 1 sc_law_numbers.nd (dn_lst da_nil))
 (dss_cons (ds_for rfl (di_seq (de_slice (de_var 0) do_none (do_some de_int))) (dg_name 2 sc_law_numbers.nd)
 (dss_one (ds_if (dt_cmp op_ge bs_cmp (de_var 2) (de_pow de_int de_int))
 (dss_cons (ds_set 3 sc_law_numbers.nd (de_var 2))
 (dss_one (ds_for rfl (di_range1 T.z_range (da_cons de_int da_nil)) (dg_name 4 sc_law_numbers.nd)
 (dss_cons (ds_if (dt_cmp (op_eqA hu) bs_eq (de_var 3) de_int)
 (dss_one ds_break)
 dss_nil)
 (dss_cons (ds_expr (de_meth PySem.F.slot_list_append PySem.F.type_list_append mt_append mut_append 1 (da_cons (de_mod (de_callTy call_int1 cal_int T.z_int boot_int (da_cons (de_var 3) da_nil)) de_int) da_nil)))
 (dss_one (ds_set 3 sc_law_numbers.nd (de_div (de_var 3) de_int))))))))
 (dss_one (ds_for rfl (di_range1 T.z_range (da_cons de_int da_nil)) (dg_name 4 sc_law_numbers.nd)
 (dss_cons (ds_set 5 sc_law_numbers.nd (de_mod (de_callTy call_int1 cal_int T.z_int boot_int (da_cons (de_add (de_add (de_mul (de_var 2) de_int) (de_mul (de_var 4) de_int)) de_int) da_nil)) de_int))
 (dss_one (ds_expr (de_meth PySem.F.slot_list_append PySem.F.type_list_append mt_append mut_append 1 (da_cons (de_mod (de_callTy call_int1 cal_int T.z_int boot_int (da_cons (de_add (de_mul (de_var 5) de_int) (de_var 4)) da_nil)) de_int) da_nil))))))))))
 (dss_cons (ds_if (dt_cmp (op_eqA hu) bs_eq (de_len T.z_len (db_var 1)) de_int)
 (dss_one (ds_expr (de_meth PySem.F.slot_list_append PySem.F.type_list_append mt_append mut_append 1 (da_cons de_int da_nil))))
 dss_nil)
 (dss_one (ds_ret (de_var 1))))))
theorem ok_law_so (T : Txt K mg fa fd) : ∀ n : Nat, DFn P w K mg base (0 + n) (fa 41) (fd 41) ["found", "meant"] (F_law_so n)
  | 0 => dfn_stuck
  | n + 1 => dfn_of (k := 0 + n) (body := b_law_so (F_law_so n)) T.u41 sc_law_so fun cdv A outer s H E hr => by
    have hu := hr.units
    have ih := ok_law_so T n
    exact (dss_cons (ds_if (dt_cmp op_isND bs_isN (de_var 1) de_non)
 (dss_one (ds_ret (de_cmp op_isND bs_isN (de_var 0) de_non)))
 dss_nil)
 (dss_cons (ds_if (dt_val (de_isi .tuple T.z_isinstance T.z_tuple boot_tuple (db_var 1)))
 (dss_cons (ds_if (dt_w (dw_or (dt_not (dt_val (de_isi .tuple T.z_isinstance T.z_tuple boot_tuple (db_var 0)))) (dw_or1 (dt_cmp (op_neA hu) bs_ne (de_len T.z_len (db_var 0)) (de_len T.z_len (db_var 1))))))
 (dss_one (ds_ret de_bl))
 dss_nil)
 (dss_cons (ds_for rfl (di_range1 T.z_range (da_cons (de_len T.z_len (db_var 1)) da_nil)) (dg_name 2 sc_law_so.nd)
 (dss_one (ds_if (dt_not (dt_val (de_call (takes_of rfl rfl rfl rfl) ih hr T.m41 T.k41 T.b41 (da_cons (de_ixV 0 (de_var 2)) (da_cons (de_ixV 1 (de_var 2)) da_nil)) (hlen := (len_cons (len_cons len_nil))))))
 (dss_one (ds_ret de_bl))
 dss_nil)))
 (dss_one (ds_ret de_bl))))
 dss_nil)
 (dss_cons (ds_if (dt_w (dw_or (dt_val (de_isi .bool T.z_isinstance T.z_bool boot_bool (db_var 1))) (dw_or1 (dt_val (de_isi .bool T.z_isinstance T.z_bool boot_bool (db_var 0))))))
 (dss_one (ds_ret (de_and (de_isi .bool T.z_isinstance T.z_bool boot_bool (db_var 1)) (de_and (de_isi .bool T.z_isinstance T.z_bool boot_bool (db_var 0)) (de_one (de_cmp (op_eqA hu) bs_eq (de_var 0) (de_var 1)))))))
 dss_nil)
 (dss_cons (ds_if (dt_val (de_isi .int T.z_isinstance T.z_int boot_int (db_var 1)))
 (dss_one (ds_ret (de_and (de_isi .int T.z_isinstance T.z_int boot_int (db_var 0)) (de_one (de_cmp (op_eqA hu) bs_eq (de_var 0) (de_var 1))))))
 dss_nil)
 (dss_one (ds_ret (de_and (de_isi .str T.z_isinstance T.z_str boot_str (db_var 1)) (de_and (de_isi .str T.z_isinstance T.z_str boot_str (db_var 0)) (de_one (de_cmp (op_eqA hu) bs_eq (de_var 0) (de_var 1)))))))))))
theorem ok_taken (T : Txt K mg fa fd) : DFn P w K mg base 1 (fa 36) (fd 36) ["step", "marking"] F_taken :=
  dfn_of (k := 0) (body := b_taken) T.u36 sc_taken fun cdv A outer s H E hr => by
    have hu := hr.units
    exact (dss_cons (ds_set 2 sc_taken.nd (de_new (dn_lc [("place", 5)] rfl sc_taken.nd (di_seq (de_var 1)) (blkOk_by (by kernel_rfl)) (fun _ _ _ _ _ => (dg_name 5 sc_taken.nd)) (fun _ _ _ _ _ => (dts_one (dt_cmpR (op_ninX (hu65 hr)) (br_in true) (de_var 5) (db_of (de_ixV 0 de_int))))) (fun _ _ _ _ _ => (de_var 5)))))
 (dss_cons (ds_setLc 3 [("place", 5)] rfl sc_taken.nd (di_seq (de_ixV 0 de_int)) (blkOk_by (by kernel_rfl)) (fun _ _ _ _ _ => (dg_name 5 sc_taken.nd)) (fun _ _ _ _ _ => (dts_one (dt_cmpR (op_inX (hu65 hr)) (br_in false) (de_var 5) (db_var 2)))) (fun _ _ _ _ _ => (de_var 5)) (sw_true rfl rfl rfl (by decide +kernel)))
 (dss_cons (ds_set 4 sc_taken.nd (de_tuple T.z_tuple (db_of (de_new (dn_sortSet rfl T.z_sorted T.z_set (dl_new (dn_lst (da_star (dq_of (db_var 2)) (da_star (dq_of (db_of (de_ixV 0 de_int))) da_nil)))))))))
 (dss_one (ds_ret (de_tup (da_cons (de_var 4) (da_cons (de_if (dt_truth (db_var 3)) (de_ixV 3 de_int) de_non) da_nil))))))))
theorem ok_after (T : Txt K mg fa fd) : DFn P w K mg base 13 (fa 39) (fd 39) ["net", "marking", "name"] F_after :=
  dfn_of (k := 12) (body := b_after) T.u39 sc_after fun cdv A outer s H E hr => by
    have hu := hr.units
    exact (dss_cons (ds_set 3 sc_after.nd (de_call (takes_of rfl rfl rfl rfl) (ok_checked_net T) (hr.mono (by decide)) T.m31 T.k31 T.b31 (da_cons (de_var 0) (da_cons de_int da_nil)) (hlen := (len_cons (len_cons len_nil)))))
 (dss_cons (ds_set 4 sc_after.nd (de_call (takes_of rfl rfl rfl rfl) (ok_checked_marking T) (hr.mono (by decide)) T.m33 T.k33 T.b33 (da_cons (de_var 3) (da_cons (de_var 1) (da_cons de_int da_nil))) (hlen := (len_cons (len_cons (len_cons len_nil))))))
 (dss_cons (ds_for rfl (di_seq (de_call (takes_of rfl rfl rfl rfl) (ok_enabled_steps T) (hr.mono (by decide)) T.m35 T.k35 T.b35 (da_cons (de_var 3) (da_cons (de_var 4) da_nil)) (hlen := (len_cons (len_cons len_nil))))) (dg_name 5 sc_after.nd)
 (dss_one (ds_if (dt_cmp (op_eqA hu) bs_eq (de_ixV 5 de_int) (de_var 2))
 (dss_cons (ds_asg (de_call (takes_of rfl rfl rfl rfl) (ok_taken T) (hr.mono (by decide)) T.m36 T.k36 T.b36 (da_cons (de_var 5) (da_cons (de_var 4) da_nil)) (hlen := (len_cons (len_cons len_nil)))) (dg_tup rfl (dgs_cons (dg_name 6 sc_after.nd) (dgs_cons (dg_name 7 sc_after.nd) dgs_nil))))
 (dss_cons (ds_if (dt_cmp op_isNotND bs_isN (de_var 7) de_non)
 (dss_one (ds_raise rfl T.x3 hr (takes_of rfl rfl rfl rfl) (de_var 7)))
 dss_nil)
 (dss_one (ds_ret (de_var 6)))))
 dss_nil)))
 (dss_one (ds_raise rfl T.x2 hr (takes_of rfl rfl rfl rfl) de_int)))))
theorem ok_law_told (T : Txt K mg fa fd) : DFn P w K mg base 14 (fa 69) (fd 69) ["net", "marking", "name"] F_law_told :=
  dfn_of (k := 13) (body := b_law_told) T.u69 sc_law_told fun cdv A outer s H E hr => by
    have hu := hr.units
    exact (dss_one (ds_tryMix (oth := []) rfl rfl sc_law_told.nd (takes_of rfl rfl rfl rfl) (fun W pn xe tk hp => (dss_one (ds_ret (de_callK tk (ok_after T) (hr.mono (by decide)) T.m39 T.k39 T.kb39 (dk_cons (de_var 0) (dk_cons (de_var 1) (dk_cons (de_var 2) dk_nil))) (len_cons (len_cons (len_cons len_nil)))))))
 (.named (i := 3) T.x3 T.e3_3 (oth_cons T.g2 T.e2_3 oth_nil) .tup rfl rfl rfl (by decide) (by decide) (by decide) (by first | exact Or.inl rfl | exact Or.inr (Or.inl rfl) | exact Or.inr (Or.inr rfl)) (by intro _; rfl)
 (.named (i := 3) T.x2 T.e2_2 oth_nil .tup rfl rfl rfl (by decide) (by decide) (by decide) (by first | exact Or.inl rfl | exact Or.inr (Or.inl rfl) | exact Or.inr (Or.inr rfl)) (by intro _; rfl)
 .nil))))
theorem ok_law (T : Txt K mg fa fd) : DFn P w K mg base 15 (fa 71) (fd 71) ["script"] F_law :=
  dfn_of (k := 14) (body := b_law) T.u71 sc_law fun cdv A outer s H E hr => by
    have hu := hr.units
    exact (dss_cons (ds_set 1 sc_law.nd (de_call (takes_of rfl rfl rfl rfl) (ok_law_numbers T) (hr.mono (by decide)) T.m42 T.k42 T.b42 (da_cons (de_var 0) da_nil) (hlen := (len_cons len_nil))))
 (dss_cons (ds_loc 2 sc_law.nd (dn_lst (da_cons de_int da_nil)))
 (dss_cons (ds_set 3 sc_law.nd (de_call (takes_of rfl rfl rfl rfl) (ok_law_net T) (hr.mono (by decide)) T.m67 T.k67 T.b67 (da_cons (de_var 1) (da_cons (de_var 2) da_nil)) (hlen := (len_cons (len_cons len_nil)))))
 (dss_cons (ds_for rfl (di_range1 T.z_range (da_cons de_int da_nil)) (dg_name 4 sc_law.nd)
 (dss_cons (ds_set 6 sc_law.nd (de_tuple T.z_tuple (db_of (de_new (dn_lc [("place", 13)] rfl sc_law.nd (di_range1 T.z_range (da_cons (de_ixV 3 de_int) da_nil)) (blkOk_by (by kernel_rfl)) (fun _ _ _ _ _ => (dg_name 13 sc_law.nd)) (fun _ _ _ _ _ => (dts_one (dt_cmp (op_eqA hu) bs_eq (de_call takes0 (ok_law_take T) (hr.mono (by decide)) T.m44 T.k44 T.b44 (da_cons (de_var 1) (da_cons (de_var 2) (da_cons de_int da_nil))) (hlen := (len_cons (len_cons (len_cons len_nil))))) de_int))) (fun _ _ _ _ _ => (de_var 13)))))))
 (dss_cons (ds_if (dt_cmp op_lt bs_cmp (de_var 4) de_int)
 (dss_one (ds_set 6 sc_law.nd (de_ix (de_call (takes_of rfl rfl rfl rfl) (ok_law_drawn_run T) (hr.mono (by decide)) T.m68 T.k68 T.b68 (da_cons (de_var 1) (da_cons (de_var 2) (da_cons (de_var 3) (da_cons (de_call (takes_of rfl rfl rfl rfl) (ok_law_take T) (hr.mono (by decide)) T.m44 T.k44 T.b44 (da_cons (de_var 1) (da_cons (de_var 2) (da_cons de_int da_nil))) (hlen := (len_cons (len_cons (len_cons len_nil))))) da_nil)))) (hlen := (len_cons (len_cons (len_cons (len_cons len_nil)))))) de_int)))
 dss_nil)
 (dss_cons (ds_set 7 sc_law.nd (de_call (takes_of rfl rfl rfl rfl) (ok_law_enabled T) (hr.mono (by decide)) T.m59 T.k59 T.b59 (da_cons (de_var 3) (da_cons (de_var 6) da_nil)) (hlen := (len_cons (len_cons len_nil)))))
 (dss_cons (ds_if (dt_not (dt_val (de_call (takes_of rfl rfl rfl rfl) (ok_law_so T 10) (hr.mono (by decide)) T.m41 T.k41 T.b41 (da_cons (de_call (takes_of rfl rfl rfl rfl) (ok_law_enabled_told T) (hr.mono (by decide)) T.m70 T.k70 T.b70 (da_cons (de_call (takes_of rfl rfl rfl rfl) (ok_law_handed T) (hr.mono (by decide)) T.m48 T.k48 T.b48 (da_cons (de_var 1) (da_cons (de_var 2) (da_cons (de_var 3) da_nil))) (hlen := (len_cons (len_cons (len_cons len_nil))))) (da_cons (de_call (takes_of rfl rfl rfl rfl) (ok_law_handed T) (hr.mono (by decide)) T.m48 T.k48 T.b48 (da_cons (de_var 1) (da_cons (de_var 2) (da_cons (de_var 6) da_nil))) (hlen := (len_cons (len_cons (len_cons len_nil))))) da_nil)) (hlen := (len_cons (len_cons len_nil)))) (da_cons (de_tuple T.z_tuple (db_of (de_new (dn_lc [("step", 8)] rfl sc_law.nd (di_seq (de_var 7)) (blkOk_by (by kernel_rfl)) (fun _ _ _ _ _ => (dg_name 8 sc_law.nd)) (fun _ _ _ _ _ => dts_nil) (fun _ _ _ _ _ => (de_ixV 8 de_int)))))) da_nil)) (hlen := (len_cons (len_cons len_nil))))))
 (dss_one (ds_ret de_bl))
 dss_nil)
 (dss_cons (ds_for rfl (di_seq (de_ixV 3 de_int)) (dg_name 8 sc_law.nd)
 (dss_cons (ds_asg (de_call (takes_of rfl rfl rfl rfl) (ok_law_taken T) (hr.mono (by decide)) T.m60 T.k60 T.b60 (da_cons (de_var 6) (da_cons (de_var 8) da_nil)) (hlen := (len_cons (len_cons len_nil)))) (dg_tup rfl (dgs_cons (dg_name 11 sc_law.nd) (dgs_cons (dg_name 12 sc_law.nd) dgs_nil))))
 (dss_cons (ds_set 10 sc_law.nd (de_if (dt_cmp op_isNotND bs_isN (de_var 12) de_non) (de_tup (da_cons de_str (da_cons (de_var 12) da_nil))) (de_var 11)))
 (dss_one (ds_if (dt_not (dt_val (de_call (takes_of rfl rfl rfl rfl) (ok_law_so T 10) (hr.mono (by decide)) T.m41 T.k41 T.b41 (da_cons (de_call (takes_of rfl rfl rfl rfl) (ok_law_told T) (hr.mono (by decide)) T.m69 T.k69 T.b69 (da_cons (de_call (takes_of rfl rfl rfl rfl) (ok_law_handed T) (hr.mono (by decide)) T.m48 T.k48 T.b48 (da_cons (de_var 1) (da_cons (de_var 2) (da_cons (de_var 3) da_nil))) (hlen := (len_cons (len_cons (len_cons len_nil))))) (da_cons (de_var 6) (da_cons (de_ixV 8 de_int) da_nil))) (hlen := (len_cons (len_cons (len_cons len_nil))))) (da_cons (de_if (dt_cmpR (op_inX (hu65 hr)) (br_in false) (de_var 8) (db_var 7)) (de_var 10) (de_tup (da_cons de_str (da_cons de_int da_nil)))) da_nil)) (hlen := (len_cons (len_cons len_nil))))))
 (dss_one (ds_ret de_bl))
 dss_nil)))))
 (dss_cons (ds_set 9 sc_law.nd (de_call (takes_of rfl rfl rfl rfl) (ok_law_pick T) (hr.mono (by decide)) T.m49 T.k49 T.b49 (da_cons (de_var 1) (da_cons (de_var 2) (da_cons (de_new (dn_lst (da_cons de_non (da_cons de_int (da_cons de_str (da_cons de_str (da_cons (de_tup (da_cons de_str da_nil)) (da_cons de_bl da_nil)))))))) da_nil))) (hlen := (len_cons (len_cons (len_cons len_nil))))))
 (dss_one (ds_if (dt_not (dt_val (de_call (takes_of rfl rfl rfl rfl) (ok_law_so T 10) (hr.mono (by decide)) T.m41 T.k41 T.b41 (da_cons (de_call (takes_of rfl rfl rfl rfl) (ok_law_told T) (hr.mono (by decide)) T.m69 T.k69 T.b69 (da_cons (de_var 3) (da_cons (de_var 6) (da_cons (de_var 9) da_nil))) (hlen := (len_cons (len_cons (len_cons len_nil))))) (da_cons (de_tup (da_cons de_str (da_cons de_int da_nil))) da_nil)) (hlen := (len_cons (len_cons len_nil))))))
 (dss_one (ds_ret de_bl))
 dss_nil)))))))))
 (dss_cons (ds_set 5 sc_law.nd (de_call (takes_of rfl rfl rfl rfl) (ok_law_pick T) (hr.mono (by decide)) T.m49 T.k49 T.b49 (da_cons (de_var 1) (da_cons (de_var 2) (da_cons (de_new (dn_lst (da_cons de_non (da_cons de_int (da_cons (de_tup (da_cons (de_ixV 3 de_int) da_nil)) (da_cons (de_tup (da_cons de_int (da_cons de_int da_nil))) (da_cons (de_tup (da_cons de_int (da_cons de_int da_nil))) (da_cons de_str (da_cons (de_tup (da_cons (de_neg de_int) da_nil)) (da_cons (de_tup (da_cons de_bl da_nil)) da_nil)))))))))) da_nil))) (hlen := (len_cons (len_cons (len_cons len_nil))))))
 (dss_one (ds_ret (de_and (de_call (takes_of rfl rfl rfl rfl) (ok_law_so T 10) (hr.mono (by decide)) T.m41 T.k41 T.b41 (da_cons (de_call (takes_of rfl rfl rfl rfl) (ok_law_told T) (hr.mono (by decide)) T.m69 T.k69 T.b69 (da_cons (de_var 3) (da_cons (de_var 5) (da_cons de_non da_nil))) (hlen := (len_cons (len_cons (len_cons len_nil))))) (da_cons (de_tup (da_cons de_str (da_cons de_int da_nil))) da_nil)) (hlen := (len_cons (len_cons len_nil)))) (de_one (de_call (takes_of rfl rfl rfl rfl) (ok_law_so T 10) (hr.mono (by decide)) T.m41 T.k41 T.b41 (da_cons (de_call (takes_of rfl rfl rfl rfl) (ok_law_enabled_told T) (hr.mono (by decide)) T.m70 T.k70 T.b70 (da_cons (de_var 3) (da_cons (de_var 5) da_nil)) (hlen := (len_cons (len_cons len_nil)))) (da_cons (de_tup (da_cons de_str (da_cons de_int da_nil))) da_nil)) (hlen := (len_cons (len_cons len_nil)))))))))))))
end
/-! ### the head -/
def loose0 : List PySem.Str := ["FlowError", "BadValue", "Doubled", "LETTERS", "MOST_LETTERS", "is_integer", "is_within", "is_sequence", "is_row", "is_word", "are_below", "frozen", "END", "LEAST_PLACES", "MOST_PLACES", "MOST_STEPS", "MOST_TRIES", "MOST_TICKS", "MOST_LENGTH", "is_calendar", "is_kind", "is_task_kind", "are_places", "is_step", "share_ins", "has_own_circle", "leads_to", "is_net_shaped", "checked_net", "is_marking"]
def loose1 : List PySem.Str := ["checked_marking", "is_enabled", "enabled_steps", "taken", "enabled", "after", "_law_so", "_law_numbers", "_law_draw", "_law_take", "_law_whole", "_law_listed", "_law_either", "_law_handed", "_law_pick", "_law_shuffled", "_law_is_word", "_law_between", "_law_rising", "_law_is_calendar", "_law_is_kind", "_law_is_net", "_law_is_round", "_law_feeds", "_law_enabled", "_law_taken", "_law_calendar", "_law_kind", "_law_sound_net", "_law_toggled"]
def loose2 : List PySem.Str := ["_law_spoilt_net", "_law_spoilt", "_law_net", "_law_drawn_run", "_law_told", "_law_enabled_told"]
def loose : List PySem.Str := loose0 ++ loose1 ++ loose2
def fns : List He.DefD := [dOf "_law_enabled" s_law_enabled,
 dOf "_law_draw" s_law_draw,
 dOf "_law_take" s_law_take,
 dOf "_law_pick" s_law_pick,
 dOf "_law_taken" s_law_taken,
 dOf "_law_drawn_run" s_law_drawn_run,
 dOf "is_sequence" s_is_sequence,
 dOf "frozen" s_frozen,
 dOf "is_integer" s_is_integer,
 dOf "is_within" s_is_within,
 dOf "are_below" s_are_below,
 dOf "is_marking" s_is_marking,
 dOf "checked_marking" s_checked_marking,
 dOf "leads_to" s_leads_to,
 dOf "has_own_circle" s_has_own_circle,
 dOf "is_row" s_is_row,
 dOf "are_places" s_are_places,
 dOf "is_calendar" s_is_calendar,
 dOf "is_word" s_is_word,
 dOf "is_task_kind" s_is_task_kind,
 dOf "is_kind" s_is_kind,
 dOf "is_step" s_is_step,
 dOf "share_ins" s_share_ins,
 dOf "is_net_shaped" s_is_net_shaped,
 dOf "checked_net" s_checked_net,
 dOf "is_enabled" s_is_enabled,
 dOf "enabled_steps" s_enabled_steps,
 dOf "enabled" s_enabled,
 dOf "_law_enabled_told" s_law_enabled_told,
 dOf "_law_either" s_law_either,
 dOf "_law_listed" s_law_listed,
 dOf "_law_handed" s_law_handed,
 dOf "_law_feeds" s_law_feeds,
 dOf "_law_is_round" s_law_is_round,
 dOf "_law_calendar" s_law_calendar,
 dOf "_law_kind" s_law_kind,
 dOf "_law_shuffled" s_law_shuffled,
 dOf "_law_sound_net" s_law_sound_net,
 dOf "_law_whole" s_law_whole,
 dOf "_law_between" s_law_between,
 dOf "_law_rising" s_law_rising,
 dOf "_law_is_calendar" s_law_is_calendar,
 dOf "_law_is_word" s_law_is_word,
 dOf "_law_is_kind" s_law_is_kind,
 dOf "_law_is_net" s_law_is_net,
 dOf "_law_toggled" s_law_toggled,
 dOf "_law_spoilt" s_law_spoilt,
 dOf "_law_spoilt_net" s_law_spoilt_net,
 dOf "_law_net" s_law_net,
 dOf "_law_numbers" s_law_numbers,
 dOf "_law_so" s_law_so,
 dOf "taken" s_taken,
 dOf "after" s_after,
 dOf "_law_told" s_law_told,
 dOf "law" s_law,
 iOf "BadValue" "BadValue.__init__" (iniOf (top 2)),
 iOf "Doubled" "Doubled.__init__" (iniOf (top 3))]
def tsts : List Tst := [tst (.glo "_law_enabled"),
 tst (.glo "_law_draw"),
 tst (.glo "_law_take"),
 tst (.glo "_law_pick"),
 tst (.glo "_law_taken"),
 tst (.glo "_law_drawn_run"),
 tst (.glo "is_sequence"),
 tst (.glo "frozen"),
 tst (.glo "is_integer"),
 tst (.glo "is_within"),
 tst (.glo "are_below"),
 tst (.glo "is_marking"),
 tst (.glo "checked_marking"),
 tst (.glo "leads_to"),
 tst (.glo "has_own_circle"),
 tst (.glo "is_row"),
 tst (.glo "are_places"),
 tst (.glo "is_calendar"),
 tst (.glo "is_word"),
 tst (.glo "is_task_kind"),
 tst (.glo "is_kind"),
 tst (.glo "is_step"),
 tst (.glo "share_ins"),
 tst (.glo "is_net_shaped"),
 tst (.glo "checked_net"),
 tst (.glo "is_enabled"),
 tst (.glo "enabled_steps"),
 tst (.glo "enabled"),
 tst (.glo "_law_enabled_told"),
 tst (.glo "_law_either"),
 tst (.glo "_law_listed"),
 tst (.glo "_law_handed"),
 tst (.glo "_law_feeds"),
 tst (.glo "_law_is_round"),
 tst (.glo "_law_calendar"),
 tst (.glo "_law_kind"),
 tst (.glo "_law_shuffled"),
 tst (.glo "_law_sound_net"),
 tst (.glo "_law_whole"),
 tst (.glo "_law_between"),
 tst (.glo "_law_rising"),
 tst (.glo "_law_is_calendar"),
 tst (.glo "_law_is_word"),
 tst (.glo "_law_is_kind"),
 tst (.glo "_law_is_net"),
 tst (.glo "_law_toggled"),
 tst (.glo "_law_spoilt"),
 tst (.glo "_law_spoilt_net"),
 tst (.glo "_law_net"),
 tst (.glo "_law_numbers"),
 tst (.glo "_law_so"),
 tst (.glo "taken"),
 tst (.glo "after"),
 tst (.glo "_law_told"),
 tst (.glo "law"),
 tst (.free "len"),
 tst (.free "int"),
 tst (.free "min"),
 tst (.free "sorted"),
 tst (.free "tuple"),
 tst (.free "range"),
 tst (.free "list"),
 tst (.free "isinstance"),
 tst (.free "bool"),
 tst (.free "all"),
 exnTst "BadValue" "at",
 tst (.free "any"),
 tst (.int "MOST_LENGTH" 28),
 tst (.free "str"),
 tst (.int "MOST_LETTERS" 8),
 tst (.str "LETTERS" "abcdefghijklmnopqrstuvwxyz"),
 tst (.int "MOST_TRIES" 5),
 tst (.int "MOST_TICKS" 1000),
 tupT "END" [.int 1],
 tst (.free "enumerate"),
 tst (.int "MOST_PLACES" 8),
 tst (.int "LEAST_PLACES" 2),
 tst (.int "MOST_STEPS" 10),
 tst (.free "set"),
 tst (.exm "BadValue" "BadValue" true),
 tst (.free "max"),
 exnTst "Doubled" "place",
 tst (.glo "BadValue"),
 tst (.glo "Doubled"),
 tst (.exm "BadValue" "Doubled" false),
 tst (.exm "Doubled" "Doubled" true)]
def nm : Nat → Str
  | 59 => "_law_enabled"
  | 43 => "_law_draw"
  | 44 => "_law_take"
  | 49 => "_law_pick"
  | 60 => "_law_taken"
  | 68 => "_law_drawn_run"
  | 9 => "is_sequence"
  | 13 => "frozen"
  | 7 => "is_integer"
  | 8 => "is_within"
  | 12 => "are_below"
  | 32 => "is_marking"
  | 33 => "checked_marking"
  | 29 => "leads_to"
  | 28 => "has_own_circle"
  | 10 => "is_row"
  | 25 => "are_places"
  | 22 => "is_calendar"
  | 11 => "is_word"
  | 24 => "is_task_kind"
  | 23 => "is_kind"
  | 26 => "is_step"
  | 27 => "share_ins"
  | 30 => "is_net_shaped"
  | 31 => "checked_net"
  | 34 => "is_enabled"
  | 35 => "enabled_steps"
  | 38 => "enabled"
  | 70 => "_law_enabled_told"
  | 47 => "_law_either"
  | 46 => "_law_listed"
  | 48 => "_law_handed"
  | 58 => "_law_feeds"
  | 57 => "_law_is_round"
  | 61 => "_law_calendar"
  | 62 => "_law_kind"
  | 50 => "_law_shuffled"
  | 63 => "_law_sound_net"
  | 45 => "_law_whole"
  | 52 => "_law_between"
  | 53 => "_law_rising"
  | 54 => "_law_is_calendar"
  | 51 => "_law_is_word"
  | 55 => "_law_is_kind"
  | 56 => "_law_is_net"
  | 64 => "_law_toggled"
  | 66 => "_law_spoilt"
  | 65 => "_law_spoilt_net"
  | 67 => "_law_net"
  | 42 => "_law_numbers"
  | 41 => "_law_so"
  | 36 => "taken"
  | 39 => "after"
  | 69 => "_law_told"
  | 71 => "law"
  | 2 => "BadValue"
  | 3 => "Doubled"
  | _ => ""
theorem txt {K : PySem.W.Frag} {h : Heap} {mg : Str → Option Value} (X : K.In h) (G : h.Ns mainGlobals mg) (c : SaysX tsts fns K) (z : FuncData) : Txt K mg (fun i => He.ga K (nm i)) (fun i => fdK K z (He.ga K (nm i))) where
  z_len := He.free_ok X G (c.fact 55 (f := .free "len"))
  u59 := (c.fun_ z 0 (x := "_law_enabled") (st := s_law_enabled))
  m59 := He.glo_ok X G (c.fact 0 (f := .glo "_law_enabled"))
  k59 := (c.fun_ z 0 (x := "_law_enabled") (st := s_law_enabled)).kp
  b59 := Fun.binds (c.fun_ z 0 (x := "_law_enabled") (st := s_law_enabled)) fun _ _ _ _ _ _ us hl => match us, hl with | [_, _], _ => rfl
  z_int := He.free_ok X G (c.fact 56 (f := .free "int"))
  u43 := (c.fun_ z 1 (x := "_law_draw") (st := s_law_draw))
  m43 := He.glo_ok X G (c.fact 1 (f := .glo "_law_draw"))
  k43 := (c.fun_ z 1 (x := "_law_draw") (st := s_law_draw)).kp
  b43 := Fun.binds (c.fun_ z 1 (x := "_law_draw") (st := s_law_draw)) fun _ _ _ _ _ _ us hl => match us, hl with | [_, _, _], _ => rfl
  u44 := (c.fun_ z 2 (x := "_law_take") (st := s_law_take))
  m44 := He.glo_ok X G (c.fact 2 (f := .glo "_law_take"))
  k44 := (c.fun_ z 2 (x := "_law_take") (st := s_law_take)).kp
  b44 := Fun.binds (c.fun_ z 2 (x := "_law_take") (st := s_law_take)) fun _ _ _ _ _ _ us hl => match us, hl with | [_, _, _], _ => rfl
  u49 := (c.fun_ z 3 (x := "_law_pick") (st := s_law_pick))
  m49 := He.glo_ok X G (c.fact 3 (f := .glo "_law_pick"))
  k49 := (c.fun_ z 3 (x := "_law_pick") (st := s_law_pick)).kp
  b49 := Fun.binds (c.fun_ z 3 (x := "_law_pick") (st := s_law_pick)) fun _ _ _ _ _ _ us hl => match us, hl with | [_, _, _], _ => rfl
  z_min := He.free_ok X G (c.fact 57 (f := .free "min"))
  z_sorted := He.free_ok X G (c.fact 58 (f := .free "sorted"))
  z_tuple := He.free_ok X G (c.fact 59 (f := .free "tuple"))
  u60 := (c.fun_ z 4 (x := "_law_taken") (st := s_law_taken))
  m60 := He.glo_ok X G (c.fact 4 (f := .glo "_law_taken"))
  k60 := (c.fun_ z 4 (x := "_law_taken") (st := s_law_taken)).kp
  b60 := Fun.binds (c.fun_ z 4 (x := "_law_taken") (st := s_law_taken)) fun _ _ _ _ _ _ us hl => match us, hl with | [_, _], _ => rfl
  z_range := He.free_ok X G (c.fact 60 (f := .free "range"))
  u68 := (c.fun_ z 5 (x := "_law_drawn_run") (st := s_law_drawn_run))
  m68 := He.glo_ok X G (c.fact 5 (f := .glo "_law_drawn_run"))
  k68 := (c.fun_ z 5 (x := "_law_drawn_run") (st := s_law_drawn_run)).kp
  b68 := Fun.binds (c.fun_ z 5 (x := "_law_drawn_run") (st := s_law_drawn_run)) fun _ _ _ _ _ _ us hl => match us, hl with | [_, _, _, _], _ => rfl
  z_list := He.free_ok X G (c.fact 61 (f := .free "list"))
  z_isinstance := He.free_ok X G (c.fact 62 (f := .free "isinstance"))
  u9 := (c.fun_ z 6 (x := "is_sequence") (st := s_is_sequence))
  m9 := He.glo_ok X G (c.fact 6 (f := .glo "is_sequence"))
  k9 := (c.fun_ z 6 (x := "is_sequence") (st := s_is_sequence)).kp
  b9 := Fun.binds (c.fun_ z 6 (x := "is_sequence") (st := s_is_sequence)) fun _ _ _ _ _ _ us hl => match us, hl with | [_], _ => rfl
  u13 := (c.fun_ z 7 (x := "frozen") (st := s_frozen))
  m13 := He.glo_ok X G (c.fact 7 (f := .glo "frozen"))
  k13 := (c.fun_ z 7 (x := "frozen") (st := s_frozen)).kp
  b13 := Fun.binds (c.fun_ z 7 (x := "frozen") (st := s_frozen)) fun _ _ _ _ _ _ us hl => match us, hl with | [_], _ => rfl
  z_bool := He.free_ok X G (c.fact 63 (f := .free "bool"))
  u7 := (c.fun_ z 8 (x := "is_integer") (st := s_is_integer))
  m7 := He.glo_ok X G (c.fact 8 (f := .glo "is_integer"))
  k7 := (c.fun_ z 8 (x := "is_integer") (st := s_is_integer)).kp
  b7 := Fun.binds (c.fun_ z 8 (x := "is_integer") (st := s_is_integer)) fun _ _ _ _ _ _ us hl => match us, hl with | [_], _ => rfl
  u8 := (c.fun_ z 9 (x := "is_within") (st := s_is_within))
  m8 := He.glo_ok X G (c.fact 9 (f := .glo "is_within"))
  k8 := (c.fun_ z 9 (x := "is_within") (st := s_is_within)).kp
  b8 := Fun.binds (c.fun_ z 9 (x := "is_within") (st := s_is_within)) fun _ _ _ _ _ _ us hl => match us, hl with | [_, _, _], _ => rfl
  z_all := He.free_ok X G (c.fact 64 (f := .free "all"))
  u12 := (c.fun_ z 10 (x := "are_below") (st := s_are_below))
  m12 := He.glo_ok X G (c.fact 10 (f := .glo "are_below"))
  k12 := (c.fun_ z 10 (x := "are_below") (st := s_are_below)).kp
  b12 := Fun.binds (c.fun_ z 10 (x := "are_below") (st := s_are_below)) fun _ _ _ _ _ _ us hl => match us, hl with | [_, _], _ => rfl
  u32 := (c.fun_ z 11 (x := "is_marking") (st := s_is_marking))
  m32 := He.glo_ok X G (c.fact 11 (f := .glo "is_marking"))
  k32 := (c.fun_ z 11 (x := "is_marking") (st := s_is_marking)).kp
  b32 := Fun.binds (c.fun_ z 11 (x := "is_marking") (st := s_is_marking)) fun _ _ _ _ _ _ us hl => match us, hl with | [_, _], _ => rfl
  x2 := exnT_of (st := iniOf (top 2)) X G (c.test 65 (f := exnTst "BadValue" "at")) (c.def_ 55 (d := iOf "BadValue" "BadValue.__init__" (iniOf (top 2)))) good_at ⟨_, _, _, _, _, _, rfl, rfl, rfl⟩
  u33 := (c.fun_ z 12 (x := "checked_marking") (st := s_checked_marking))
  m33 := He.glo_ok X G (c.fact 12 (f := .glo "checked_marking"))
  k33 := (c.fun_ z 12 (x := "checked_marking") (st := s_checked_marking)).kp
  b33 := Fun.binds (c.fun_ z 12 (x := "checked_marking") (st := s_checked_marking)) fun _ _ _ _ _ _ us hl => match us, hl with | [_, _, _], _ => rfl
  z_any := He.free_ok X G (c.fact 66 (f := .free "any"))
  u29 := (c.fun_ z 13 (x := "leads_to") (st := s_leads_to))
  m29 := He.glo_ok X G (c.fact 13 (f := .glo "leads_to"))
  k29 := (c.fun_ z 13 (x := "leads_to") (st := s_leads_to)).kp
  b29 := Fun.binds (c.fun_ z 13 (x := "leads_to") (st := s_leads_to)) fun _ _ _ _ _ _ us hl => match us, hl with | [_, _], _ => rfl
  u28 := (c.fun_ z 14 (x := "has_own_circle") (st := s_has_own_circle))
  m28 := He.glo_ok X G (c.fact 14 (f := .glo "has_own_circle"))
  k28 := (c.fun_ z 14 (x := "has_own_circle") (st := s_has_own_circle)).kp
  b28 := Fun.binds (c.fun_ z 14 (x := "has_own_circle") (st := s_has_own_circle)) fun _ _ _ _ _ _ us hl => match us, hl with | [_], _ => rfl
  u10 := (c.fun_ z 15 (x := "is_row") (st := s_is_row))
  m10 := He.glo_ok X G (c.fact 15 (f := .glo "is_row"))
  k10 := (c.fun_ z 15 (x := "is_row") (st := s_is_row)).kp
  b10 := Fun.binds (c.fun_ z 15 (x := "is_row") (st := s_is_row)) fun _ _ _ _ _ _ us hl => match us, hl with | [_, _, _], _ => rfl
  u25 := (c.fun_ z 16 (x := "are_places") (st := s_are_places))
  m25 := He.glo_ok X G (c.fact 16 (f := .glo "are_places"))
  k25 := (c.fun_ z 16 (x := "are_places") (st := s_are_places)).kp
  b25 := Fun.binds (c.fun_ z 16 (x := "are_places") (st := s_are_places)) fun _ _ _ _ _ _ us hl => match us, hl with | [_, _], _ => rfl
  c_MOST_LENGTH := He.int_ok X G (c.fact 67 (f := .int "MOST_LENGTH" 28))
  u22 := (c.fun_ z 17 (x := "is_calendar") (st := s_is_calendar))
  m22 := He.glo_ok X G (c.fact 17 (f := .glo "is_calendar"))
  k22 := (c.fun_ z 17 (x := "is_calendar") (st := s_is_calendar)).kp
  b22 := Fun.binds (c.fun_ z 17 (x := "is_calendar") (st := s_is_calendar)) fun _ _ _ _ _ _ us hl => match us, hl with | [_], _ => rfl
  z_str := He.free_ok X G (c.fact 68 (f := .free "str"))
  c_MOST_LETTERS := He.int_ok X G (c.fact 69 (f := .int "MOST_LETTERS" 8))
  c_LETTERS := He.str_ok X G (c.fact 70 (f := .str "LETTERS" "abcdefghijklmnopqrstuvwxyz"))
  u11 := (c.fun_ z 18 (x := "is_word") (st := s_is_word))
  m11 := He.glo_ok X G (c.fact 18 (f := .glo "is_word"))
  k11 := (c.fun_ z 18 (x := "is_word") (st := s_is_word)).kp
  b11 := Fun.binds (c.fun_ z 18 (x := "is_word") (st := s_is_word)) fun _ _ _ _ _ _ us hl => match us, hl with | [_], _ => rfl
  c_MOST_TRIES := He.int_ok X G (c.fact 71 (f := .int "MOST_TRIES" 5))
  c_MOST_TICKS := He.int_ok X G (c.fact 72 (f := .int "MOST_TICKS" 1000))
  u24 := (c.fun_ z 19 (x := "is_task_kind") (st := s_is_task_kind))
  m24 := He.glo_ok X G (c.fact 19 (f := .glo "is_task_kind"))
  k24 := (c.fun_ z 19 (x := "is_task_kind") (st := s_is_task_kind)).kp
  b24 := Fun.binds (c.fun_ z 19 (x := "is_task_kind") (st := s_is_task_kind)) fun _ _ _ _ _ _ us hl => match us, hl with | [_], _ => rfl
  u23 := (c.fun_ z 20 (x := "is_kind") (st := s_is_kind))
  m23 := He.glo_ok X G (c.fact 20 (f := .glo "is_kind"))
  k23 := (c.fun_ z 20 (x := "is_kind") (st := s_is_kind)).kp
  b23 := Fun.binds (c.fun_ z 20 (x := "is_kind") (st := s_is_kind)) fun _ _ _ _ _ _ us hl => match us, hl with | [_], _ => rfl
  c_END := gtup_ok X G (c.test 73 (f := tupT "END" [.int 1]))
  u26 := (c.fun_ z 21 (x := "is_step") (st := s_is_step))
  m26 := He.glo_ok X G (c.fact 21 (f := .glo "is_step"))
  k26 := (c.fun_ z 21 (x := "is_step") (st := s_is_step)).kp
  b26 := Fun.binds (c.fun_ z 21 (x := "is_step") (st := s_is_step)) fun _ _ _ _ _ _ us hl => match us, hl with | [_, _], _ => rfl
  z_enumerate := He.free_ok X G (c.fact 74 (f := .free "enumerate"))
  u27 := (c.fun_ z 22 (x := "share_ins") (st := s_share_ins))
  m27 := He.glo_ok X G (c.fact 22 (f := .glo "share_ins"))
  k27 := (c.fun_ z 22 (x := "share_ins") (st := s_share_ins)).kp
  b27 := Fun.binds (c.fun_ z 22 (x := "share_ins") (st := s_share_ins)) fun _ _ _ _ _ _ us hl => match us, hl with | [_], _ => rfl
  c_MOST_PLACES := He.int_ok X G (c.fact 75 (f := .int "MOST_PLACES" 8))
  c_LEAST_PLACES := He.int_ok X G (c.fact 76 (f := .int "LEAST_PLACES" 2))
  c_MOST_STEPS := He.int_ok X G (c.fact 77 (f := .int "MOST_STEPS" 10))
  z_set := He.free_ok X G (c.fact 78 (f := .free "set"))
  u30 := (c.fun_ z 23 (x := "is_net_shaped") (st := s_is_net_shaped))
  m30 := He.glo_ok X G (c.fact 23 (f := .glo "is_net_shaped"))
  k30 := (c.fun_ z 23 (x := "is_net_shaped") (st := s_is_net_shaped)).kp
  b30 := Fun.binds (c.fun_ z 23 (x := "is_net_shaped") (st := s_is_net_shaped)) fun _ _ _ _ _ _ us hl => match us, hl with | [_], _ => rfl
  u31 := (c.fun_ z 24 (x := "checked_net") (st := s_checked_net))
  m31 := He.glo_ok X G (c.fact 24 (f := .glo "checked_net"))
  k31 := (c.fun_ z 24 (x := "checked_net") (st := s_checked_net)).kp
  b31 := Fun.binds (c.fun_ z 24 (x := "checked_net") (st := s_checked_net)) fun _ _ _ _ _ _ us hl => match us, hl with | [_, _], _ => rfl
  u34 := (c.fun_ z 25 (x := "is_enabled") (st := s_is_enabled))
  m34 := He.glo_ok X G (c.fact 25 (f := .glo "is_enabled"))
  k34 := (c.fun_ z 25 (x := "is_enabled") (st := s_is_enabled)).kp
  b34 := Fun.binds (c.fun_ z 25 (x := "is_enabled") (st := s_is_enabled)) fun _ _ _ _ _ _ us hl => match us, hl with | [_, _], _ => rfl
  u35 := (c.fun_ z 26 (x := "enabled_steps") (st := s_enabled_steps))
  m35 := He.glo_ok X G (c.fact 26 (f := .glo "enabled_steps"))
  k35 := (c.fun_ z 26 (x := "enabled_steps") (st := s_enabled_steps)).kp
  b35 := Fun.binds (c.fun_ z 26 (x := "enabled_steps") (st := s_enabled_steps)) fun _ _ _ _ _ _ us hl => match us, hl with | [_, _], _ => rfl
  u38 := (c.fun_ z 27 (x := "enabled") (st := s_enabled))
  m38 := He.glo_ok X G (c.fact 27 (f := .glo "enabled"))
  k38 := (c.fun_ z 27 (x := "enabled") (st := s_enabled)).kp
  b38 := Fun.binds (c.fun_ z 27 (x := "enabled") (st := s_enabled)) fun _ _ _ _ _ _ us hl => match us, hl with | [_, _], _ => rfl
  e2_2 := He.exm_ok (c.fact 79 (f := .exm "BadValue" "BadValue" true))
  kb38 := Fun.kbinds (c.fun_ z 27 (x := "enabled") (st := s_enabled)) fun _ _ _ _ _ _ us hl => match us, hl with | [_, _], _ => rfl
  u70 := (c.fun_ z 28 (x := "_law_enabled_told") (st := s_law_enabled_told))
  m70 := He.glo_ok X G (c.fact 28 (f := .glo "_law_enabled_told"))
  k70 := (c.fun_ z 28 (x := "_law_enabled_told") (st := s_law_enabled_told)).kp
  b70 := Fun.binds (c.fun_ z 28 (x := "_law_enabled_told") (st := s_law_enabled_told)) fun _ _ _ _ _ _ us hl => match us, hl with | [_, _], _ => rfl
  u47 := (c.fun_ z 29 (x := "_law_either") (st := s_law_either))
  m47 := He.glo_ok X G (c.fact 29 (f := .glo "_law_either"))
  k47 := (c.fun_ z 29 (x := "_law_either") (st := s_law_either)).kp
  b47 := Fun.binds (c.fun_ z 29 (x := "_law_either") (st := s_law_either)) fun _ _ _ _ _ _ us hl => match us, hl with | [_, _, _], _ => rfl
  u46 := (c.fun_ z 30 (x := "_law_listed") (st := s_law_listed))
  m46 := He.glo_ok X G (c.fact 30 (f := .glo "_law_listed"))
  k46 := (c.fun_ z 30 (x := "_law_listed") (st := s_law_listed)).kp
  b46 := Fun.binds (c.fun_ z 30 (x := "_law_listed") (st := s_law_listed)) fun _ _ _ _ _ _ us hl => match us, hl with | [_], _ => rfl
  u48 := (c.fun_ z 31 (x := "_law_handed") (st := s_law_handed))
  m48 := He.glo_ok X G (c.fact 31 (f := .glo "_law_handed"))
  k48 := (c.fun_ z 31 (x := "_law_handed") (st := s_law_handed)).kp
  b48 := Fun.binds (c.fun_ z 31 (x := "_law_handed") (st := s_law_handed)) fun _ _ _ _ _ _ us hl => match us, hl with | [_, _, _], _ => rfl
  u58 := (c.fun_ z 32 (x := "_law_feeds") (st := s_law_feeds))
  m58 := He.glo_ok X G (c.fact 32 (f := .glo "_law_feeds"))
  k58 := (c.fun_ z 32 (x := "_law_feeds") (st := s_law_feeds)).kp
  b58 := Fun.binds (c.fun_ z 32 (x := "_law_feeds") (st := s_law_feeds)) fun _ _ _ _ _ _ us hl => match us, hl with | [_, _], _ => rfl
  u57 := (c.fun_ z 33 (x := "_law_is_round") (st := s_law_is_round))
  m57 := He.glo_ok X G (c.fact 33 (f := .glo "_law_is_round"))
  k57 := (c.fun_ z 33 (x := "_law_is_round") (st := s_law_is_round)).kp
  b57 := Fun.binds (c.fun_ z 33 (x := "_law_is_round") (st := s_law_is_round)) fun _ _ _ _ _ _ us hl => match us, hl with | [_], _ => rfl
  u61 := (c.fun_ z 34 (x := "_law_calendar") (st := s_law_calendar))
  m61 := He.glo_ok X G (c.fact 34 (f := .glo "_law_calendar"))
  k61 := (c.fun_ z 34 (x := "_law_calendar") (st := s_law_calendar)).kp
  b61 := Fun.binds (c.fun_ z 34 (x := "_law_calendar") (st := s_law_calendar)) fun _ _ _ _ _ _ us hl => match us, hl with | [_, _], _ => rfl
  u62 := (c.fun_ z 35 (x := "_law_kind") (st := s_law_kind))
  m62 := He.glo_ok X G (c.fact 35 (f := .glo "_law_kind"))
  k62 := (c.fun_ z 35 (x := "_law_kind") (st := s_law_kind)).kp
  b62 := Fun.binds (c.fun_ z 35 (x := "_law_kind") (st := s_law_kind)) fun _ _ _ _ _ _ us hl => match us, hl with | [_, _, _], _ => rfl
  u50 := (c.fun_ z 36 (x := "_law_shuffled") (st := s_law_shuffled))
  m50 := He.glo_ok X G (c.fact 36 (f := .glo "_law_shuffled"))
  k50 := (c.fun_ z 36 (x := "_law_shuffled") (st := s_law_shuffled)).kp
  b50 := Fun.binds (c.fun_ z 36 (x := "_law_shuffled") (st := s_law_shuffled)) fun _ _ _ _ _ _ us hl => match us, hl with | [_, _, _], _ => rfl
  u63 := (c.fun_ z 37 (x := "_law_sound_net") (st := s_law_sound_net))
  m63 := He.glo_ok X G (c.fact 37 (f := .glo "_law_sound_net"))
  k63 := (c.fun_ z 37 (x := "_law_sound_net") (st := s_law_sound_net)).kp
  b63 := Fun.binds (c.fun_ z 37 (x := "_law_sound_net") (st := s_law_sound_net)) fun _ _ _ _ _ _ us hl => match us, hl with | [_, _], _ => rfl
  u45 := (c.fun_ z 38 (x := "_law_whole") (st := s_law_whole))
  m45 := He.glo_ok X G (c.fact 38 (f := .glo "_law_whole"))
  k45 := (c.fun_ z 38 (x := "_law_whole") (st := s_law_whole)).kp
  b45 := Fun.binds (c.fun_ z 38 (x := "_law_whole") (st := s_law_whole)) fun _ _ _ _ _ _ us hl => match us, hl with | [_], _ => rfl
  u52 := (c.fun_ z 39 (x := "_law_between") (st := s_law_between))
  m52 := He.glo_ok X G (c.fact 39 (f := .glo "_law_between"))
  k52 := (c.fun_ z 39 (x := "_law_between") (st := s_law_between)).kp
  b52 := Fun.binds (c.fun_ z 39 (x := "_law_between") (st := s_law_between)) fun _ _ _ _ _ _ us hl => match us, hl with | [_, _, _], _ => rfl
  u53 := (c.fun_ z 40 (x := "_law_rising") (st := s_law_rising))
  m53 := He.glo_ok X G (c.fact 40 (f := .glo "_law_rising"))
  k53 := (c.fun_ z 40 (x := "_law_rising") (st := s_law_rising)).kp
  b53 := Fun.binds (c.fun_ z 40 (x := "_law_rising") (st := s_law_rising)) fun _ _ _ _ _ _ us hl => match us, hl with | [_, _, _], _ => rfl
  u54 := (c.fun_ z 41 (x := "_law_is_calendar") (st := s_law_is_calendar))
  m54 := He.glo_ok X G (c.fact 41 (f := .glo "_law_is_calendar"))
  k54 := (c.fun_ z 41 (x := "_law_is_calendar") (st := s_law_is_calendar)).kp
  b54 := Fun.binds (c.fun_ z 41 (x := "_law_is_calendar") (st := s_law_is_calendar)) fun _ _ _ _ _ _ us hl => match us, hl with | [_], _ => rfl
  u51 := (c.fun_ z 42 (x := "_law_is_word") (st := s_law_is_word))
  m51 := He.glo_ok X G (c.fact 42 (f := .glo "_law_is_word"))
  k51 := (c.fun_ z 42 (x := "_law_is_word") (st := s_law_is_word)).kp
  b51 := Fun.binds (c.fun_ z 42 (x := "_law_is_word") (st := s_law_is_word)) fun _ _ _ _ _ _ us hl => match us, hl with | [_], _ => rfl
  u55 := (c.fun_ z 43 (x := "_law_is_kind") (st := s_law_is_kind))
  m55 := He.glo_ok X G (c.fact 43 (f := .glo "_law_is_kind"))
  k55 := (c.fun_ z 43 (x := "_law_is_kind") (st := s_law_is_kind)).kp
  b55 := Fun.binds (c.fun_ z 43 (x := "_law_is_kind") (st := s_law_is_kind)) fun _ _ _ _ _ _ us hl => match us, hl with | [_], _ => rfl
  u56 := (c.fun_ z 44 (x := "_law_is_net") (st := s_law_is_net))
  m56 := He.glo_ok X G (c.fact 44 (f := .glo "_law_is_net"))
  k56 := (c.fun_ z 44 (x := "_law_is_net") (st := s_law_is_net)).kp
  b56 := Fun.binds (c.fun_ z 44 (x := "_law_is_net") (st := s_law_is_net)) fun _ _ _ _ _ _ us hl => match us, hl with | [_], _ => rfl
  u64 := (c.fun_ z 45 (x := "_law_toggled") (st := s_law_toggled))
  m64 := He.glo_ok X G (c.fact 45 (f := .glo "_law_toggled"))
  k64 := (c.fun_ z 45 (x := "_law_toggled") (st := s_law_toggled)).kp
  b64 := Fun.binds (c.fun_ z 45 (x := "_law_toggled") (st := s_law_toggled)) fun _ _ _ _ _ _ us hl => match us, hl with | [_, _], _ => rfl
  z_max := He.free_ok X G (c.fact 80 (f := .free "max"))
  u66 := (c.fun_ z 46 (x := "_law_spoilt") (st := s_law_spoilt))
  m66 := He.glo_ok X G (c.fact 46 (f := .glo "_law_spoilt"))
  k66 := (c.fun_ z 46 (x := "_law_spoilt") (st := s_law_spoilt)).kp
  b66 := Fun.binds (c.fun_ z 46 (x := "_law_spoilt") (st := s_law_spoilt)) fun _ _ _ _ _ _ us hl => match us, hl with | [_, _, _], _ => rfl
  u65 := (c.fun_ z 47 (x := "_law_spoilt_net") (st := s_law_spoilt_net))
  m65 := He.glo_ok X G (c.fact 47 (f := .glo "_law_spoilt_net"))
  k65 := (c.fun_ z 47 (x := "_law_spoilt_net") (st := s_law_spoilt_net)).kp
  b65 := Fun.binds (c.fun_ z 47 (x := "_law_spoilt_net") (st := s_law_spoilt_net)) fun _ _ _ _ _ _ us hl => match us, hl with | [_, _, _], _ => rfl
  u67 := (c.fun_ z 48 (x := "_law_net") (st := s_law_net))
  m67 := He.glo_ok X G (c.fact 48 (f := .glo "_law_net"))
  k67 := (c.fun_ z 48 (x := "_law_net") (st := s_law_net)).kp
  b67 := Fun.binds (c.fun_ z 48 (x := "_law_net") (st := s_law_net)) fun _ _ _ _ _ _ us hl => match us, hl with | [_, _], _ => rfl
  u42 := (c.fun_ z 49 (x := "_law_numbers") (st := s_law_numbers))
  m42 := He.glo_ok X G (c.fact 49 (f := .glo "_law_numbers"))
  k42 := (c.fun_ z 49 (x := "_law_numbers") (st := s_law_numbers)).kp
  b42 := Fun.binds (c.fun_ z 49 (x := "_law_numbers") (st := s_law_numbers)) fun _ _ _ _ _ _ us hl => match us, hl with | [_], _ => rfl
  u41 := (c.fun_ z 50 (x := "_law_so") (st := s_law_so))
  m41 := He.glo_ok X G (c.fact 50 (f := .glo "_law_so"))
  k41 := (c.fun_ z 50 (x := "_law_so") (st := s_law_so)).kp
  b41 := Fun.binds (c.fun_ z 50 (x := "_law_so") (st := s_law_so)) fun _ _ _ _ _ _ us hl => match us, hl with | [_, _], _ => rfl
  u36 := (c.fun_ z 51 (x := "taken") (st := s_taken))
  m36 := He.glo_ok X G (c.fact 51 (f := .glo "taken"))
  k36 := (c.fun_ z 51 (x := "taken") (st := s_taken)).kp
  b36 := Fun.binds (c.fun_ z 51 (x := "taken") (st := s_taken)) fun _ _ _ _ _ _ us hl => match us, hl with | [_, _], _ => rfl
  x3 := exnT_of (st := iniOf (top 3)) X G (c.test 81 (f := exnTst "Doubled" "place")) (c.def_ 56 (d := iOf "Doubled" "Doubled.__init__" (iniOf (top 3)))) good_place ⟨_, _, _, _, _, _, rfl, rfl, rfl⟩
  u39 := (c.fun_ z 52 (x := "after") (st := s_after))
  m39 := He.glo_ok X G (c.fact 52 (f := .glo "after"))
  k39 := (c.fun_ z 52 (x := "after") (st := s_after)).kp
  b39 := Fun.binds (c.fun_ z 52 (x := "after") (st := s_after)) fun _ _ _ _ _ _ us hl => match us, hl with | [_, _, _], _ => rfl
  kb39 := Fun.kbinds (c.fun_ z 52 (x := "after") (st := s_after)) fun _ _ _ _ _ _ us hl => match us, hl with | [_, _, _], _ => rfl
  g2 := He.glo_ok X G (c.fact 82 (f := .glo "BadValue"))
  g3 := He.glo_ok X G (c.fact 83 (f := .glo "Doubled"))
  e2_3 := He.exm_ok (c.fact 84 (f := .exm "BadValue" "Doubled" false))
  e3_3 := He.exm_ok (c.fact 85 (f := .exm "Doubled" "Doubled" true))
  u69 := (c.fun_ z 53 (x := "_law_told") (st := s_law_told))
  m69 := He.glo_ok X G (c.fact 53 (f := .glo "_law_told"))
  k69 := (c.fun_ z 53 (x := "_law_told") (st := s_law_told)).kp
  b69 := Fun.binds (c.fun_ z 53 (x := "_law_told") (st := s_law_told)) fun _ _ _ _ _ _ us hl => match us, hl with | [_, _, _], _ => rfl
  u71 := (c.fun_ z 54 (x := "law") (st := s_law))
  m71 := He.glo_ok X G (c.fact 54 (f := .glo "law"))
  k71 := (c.fun_ z 54 (x := "law") (st := s_law)).kp
  b71 := Fun.binds (c.fun_ z 54 (x := "law") (st := s_law)) fun _ _ _ _ _ _ us hl => match us, hl with | [_], _ => rfl
abbrev R : PySem.W.OpenRow := PySem.W.OpenLaw.row PySem.Challenge.rw_wholeflow_k02_steps_of_nets
abbrev hk : PySem.W.Hook := hookX 5 tsts fns
def ob (s : PySem.W.SharedT) : He.AlD := obsXG 5 tsts fns (HandSHeadRun.getT s)
theorem ob_eq (s : PySem.W.SharedT) : ob s = hk.obs s.abs := obsXG_eq (HandSHeadRun.getT_eq s)
set_option maxHeartbeats 0 in
theorem run (w : World) : HandSHeadRun.RunEq R (PySem.W.view R.prog [71]) hk ob 6000 loose w := by
  intro os
  kernel_rfl
theorem facts {P : Program} {w : World} {K : PySem.W.Frag} {h : Heap} {mg : Str → Option Value} {f : Addr} (X : K.In h) (G : h.Ns mainGlobals mg) (hfa : mg ("law" : Str) = some (.ref f)) (c : SaysX tsts fns K) :
    ∃ fd : FuncData, (∀ (s : Shared) (v : Value), BindsTo s fd ⟨[v], []⟩ [("script", v)]) ∧ ∀ base : Heap, K.In base → base.Ns mainGlobals mg → DFn P w K mg base 15 f fd ["script"] F_law := by
  obtain ⟨z, _⟩ := c.any 0
  have T := txt X G c z
  have e := hfa.symm.trans T.m71
  cases e
  have bA := Fun.bindsA (ps := ["script"]) T.u71 fun _ _ _ _ _ _ us hl => match us, hl with | [_], _ => rfl
  exact ⟨_, fun s v => bA s [v] rfl, fun base _ _ => ok_law T⟩
open PySem.W PySem.Calls in
set_option maxHeartbeats 0 in
theorem fin (law_true : ∀ ns : List Int, ns.length ≤ 63 → ∃ S, F_law [.ro (ns.map .int)] [] = .ok (.bl true) S) : PySem.Challenge.rw_wholeflow_k02_steps_of_nets.Holds := by
  w_on; o_law
  refine HandSHeadRun.head_any (r := OpenLaw.row PySem.Challenge.rw_wholeflow_k02_steps_of_nets) (q := view (OpenLaw.row PySem.Challenge.rw_wholeflow_k02_steps_of_nets).prog [71]) (H := hk) (ob := ob) (M := 6000) (loose := loose) (d := HandSHeadRun.topDef (OpenLaw.row PySem.Challenge.rw_wholeflow_k02_steps_of_nets).prog 71) (kwd := []) ob_eq
    (by kernel_rfl) (fun s => by kernel_rfl) run (by kernel_rfl) (by kernel_rfl) (by kernel_rfl) (by rfl) (by first | assumption | decide +kernel) (by decide +kernel) ⟨rfl, rfl, rfl, rfl, rfl, by decide +kernel⟩ ?hw ?hc
  case hw => w_witness2
  case hc =>
    refine walk_ofW (l := PySem.Challenge.rw_wholeflow_k02_steps_of_nets) (n := 63) (k := 15) (x := "script") rfl (by decide) (by kernel_rfl) ⟨rfl, by decide, by decide⟩ ?F
    intro w mg fa h Y G hmg0
    obtain ⟨K, KX, c⟩ := Y
    have hmg : mg ("law" : PySem.Str) = some (.ref fa) := by
      have e : (HandSHeadRun.topDef (OpenLaw.row PySem.Challenge.rw_wholeflow_k02_steps_of_nets).prog 71).name = ("law" : PySem.Str) := by kernel_rfl
      rw [← e]
      exact hmg0
    obtain ⟨fd, hb, hF⟩ := facts (P := (PySem.Challenge.rw_wholeflow_k02_steps_of_nets).prog) (w := w) KX G hmg c
    exact ⟨K, fd, F_law, KX, hb, law_true, hF⟩
end Lk02

namespace Lk02
open PySem PySem.Spec PyProof.Rows L2 Wd Wh
variable {S T : Store} {d e : D} {ds : List D}
theorem sne_db : ¬ (("BadValue" : Str) = "Doubled") := by decide
theorem tag_dat {k : Nat} {z : Str} (h : z = "bad" ∨ z = "doubled") {i : Int} : Dat (k + 1) (.tup [.str z, .int i]) := by
  refine ⟨by simp, fun d hd => ?_⟩
  simp at hd
  rcases hd with rfl | rfl
  · rcases h with rfl | rfl <;> exact Dat_str.mpr (by decide +kernel)
  · simp
theorem strs_dat {zs : List Str} (hz : ∀ z ∈ zs, wordS z = true) (hl : zs.length ≤ 16777216) {k : Nat} : Dat (k + 1) (.tup (zs.map D.str)) := by
  refine ⟨by simpa using hl, fun d hd => ?_⟩
  obtain ⟨z, h, rfl⟩ := List.mem_map.mp hd
  exact Dat_str.mpr (word_dat (hz z h))
/-- what is told of after -/
def toldD (N : Nt) (mk : List Int) (z : Str) : D :=
  match (enS N mk).find? fun s => decide (s.nm = z) with
  | none => .tup [.str "bad", .int 2]
  | some s => match tkD s mk with
    | none => mkD (newOf s mk)
    | some p => .tup [.str "doubled", .int p]
theorem told_of {N : Nt} {mk : List Int} {z : Str} {x y : D} (h : ∀ S, F_after [d, e, .str z] S = afterR N mk z S) : F_law_told [d, e, .str z] S = .ok (toldD N mk z) S := by
  unfold afterR at h
  unfold toldD
  cases hf : (enS N mk).find? fun s => decide (s.nm = z) with
  | none =>
    simp only [hf] at h
    have := hMix_miss (cs := [(("BadValue" : Str), CK.named 3 "at" (.tup "bad"))]) (oth := []) (cn := "Doubled") (k := .named 3 "place" (.tup "doubled")) (x := ⟨"BadValue", [("at", .int 2)]⟩) (m := ⟨[.val d, .val e, .val (.str z), .un], S⟩) sne_db (by simp)
    simp [F_law_told, b_law_told, ev_run, h, this, hMix_tup]
  | some s =>
    cases ht : tkD s mk with
    | none =>
      simp only [hf, ht] at h
      simp [F_law_told, b_law_told, ev_run, h, ht]
    | some p =>
      simp only [hf, ht] at h
      simp [F_law_told, b_law_told, ev_run, h, ht, hMix_tup]
theorem told_t {N : Nt} {mk : List Int} (h : MkOk N mk) (hN : N.Ok) (hh : Hand 9 N.dat d) (hm : Hand 9 (mkD mk) e) {z : Str} : F_law_told [d, e, .str z] S = .ok (toldD N mk z) S :=
  told_of (x := d) (y := e) fun S => after_t h hN hh hm
theorem told_exc {x : D} {a : Int} (h : ∀ S, F_after [d, e, x] S = .exc ⟨"BadValue", [("at", .int a)]⟩ S) : F_law_told [d, e, x] S = .ok (.tup [.str "bad", .int a]) S := by
  have := hMix_miss (cs := [(("BadValue" : Str), CK.named 3 "at" (.tup "bad"))]) (oth := []) (cn := "Doubled") (k := .named 3 "place" (.tup "doubled")) (x := ⟨"BadValue", [("at", .int a)]⟩) (m := ⟨[.val d, .val e, .val x, .un], S⟩) sne_db (by simp)
  simp [F_law_told, b_law_told, ev_run, h, this, hMix_tup]
/-- names that are none -/
theorem after_wrong {N : Nt} {mk : List Int} (h : MkOk N mk) (hN : N.Ok) (hnm : N.Nm) {x : D} (hx : x ∈ [D.non, .int 7, .str "zz", .str "", .tup [.str "ask"], .bl true]) : F_after [N.dat, mkD mk, x] S = .exc ⟨"BadValue", [("at", .int 2)]⟩ S := by
  have hdN : Dat 9 N.dat := hN.dat (k := 3)
  have hl := h.len hN
  have hdm : Dat 9 (mkD mk) := mkD_dat (by omega) (k := 8)
  have e1 := fun S => checked_net_t (S := S) hN (a := 0) hdN.tups.self
  have e2 := fun S => checked_marking_t (S := S) h hN (a := 1) hdm.tups.self
  have e3 := fun S => enabled_steps_t (S := S) (mk := mk) hN.short
  have ne : ∀ s ∈ enS N mk, ∀ m, oEq false (.str s.nm) x m = .ok (.bl false) m := fun s hs m => by
    have hn := hnm s (List.mem_filter.mp hs).1
    have key : ∀ z ∈ nm11, ¬ z = "zz" ∧ ¬ z = "" := by decide +kernel
    have hk := key _ hn
    simp at hx
    rcases hx with rfl | rfl | rfl | rfl | rfl | rfl
    · rfl
    · rfl
    · simp [hk.1]
    · simp [hk.2]
    · have o1 : okEq (.str s.nm) = true := by
        have := word_dat ((hN.st s (List.mem_filter.mp hs).1).nm)
        exact (Dat_str.mpr this : Dat 0 _).okEq (by decide)
      have o2 : okEq (.tup [.str "ask"]) = true := by decide +kernel
      show (if okEq (.str s.nm) = true ∧ okEq (.tup [.str "ask"]) = true then Res.ok (D.bl (eqD (.str s.nm) (.tup [.str "ask"]))) m else .stuck) = _
      rw [if_pos ⟨o1, o2⟩]
      unfold eqD
      simp [py, pys, PyData.eqv]
    · rfl
  have miss : ∀ (s : Wh.St) (r5 r6 r7 : Sl), s ∈ enS N mk → forB lp_after_1 (tgN 5 s.dat ⟨[.val N.dat, .val (mkD mk), .val x, .val N.dat, .val (mkD mk), r5, r6, r7], S⟩) = .next ⟨[.val N.dat, .val (mkD mk), .val x, .val N.dat, .val (mkD mk), .val s.dat, r6, r7], S⟩ := fun s r5 r6 r7 hs => by
    simp [lp_after_1, ne s hs]
  rcases forD_lk (tg := tgN 5) (F := lp_after_1) (enc := Wh.St.dat) (st := fun r5 : Sl => ⟨[.val N.dat, .val (mkD mk), .val x, .val N.dat, .val (mkD mk), r5, .un, .un], S⟩) (p := fun _ => false) (k := fun _ => .non) (enS N mk)
    (fun s hs r5 => ⟨.val s.dat, miss s r5 .un .un hs, rfl⟩) .un with ⟨r5, g1, _, _⟩ | ⟨x, m', g1, _⟩
  · generalize (enS N mk).map Wh.St.dat = L at *
    simp [F_after, b_after, ev_run, e1, e2, e3, g1]
  · have := List.find?_some g1
    cases this
theorem after_bad {N : Nt} (hN : N.Ok) (hh : Hand 9 N.dat d) {k : Nat} {x z : D} (hd : Dat k x) (hx : Hand k x e) (hb : isBelow N.pl x = false) : F_after [d, e, z] S = .exc ⟨"BadValue", [("at", .int 1)]⟩ S := by
  have e1 := fun S => checked_net_t (S := S) hN (a := 0) hh
  have e2 := fun S => checked_marking_bad (S := S) (N := N) hd hx hb (a := 1)
  simp [F_after, b_after, ev_run, e1, e2]
theorem etold_t {N : Nt} {mk : List Int} (h : MkOk N mk) (hN : N.Ok) (hh : Hand 9 N.dat d) (hm : Hand 9 (mkD mk) e) : F_law_enabled_told [d, e] S = .ok (.tup (((enS N mk).map Wh.St.nm).map D.str)) S := by
  have e1 := fun S => enabled_t (S := S) h hN hh hm
  simp only [List.map_map] at e1 ⊢
  simp [F_law_enabled_told, b_law_enabled_told, ev_run, e1]
/-- what is no marking -/
theorem off_ok {N : Nt} (hN : N.Ok) {x : D} (hx : x ∈ [D.non, .int 7, .tup [.int N.pl], .tup [.int 1, .int 0], .tup [.int 0, .int 0], .str "0", .tup [.int (-1)], .tup [.bl true]]) : Dat 1 x ∧ isBelow N.pl x = false := by
  have one : ∀ i : Int, ¬ (0 ≤ i ∧ i < N.pl) → isBelow N.pl (.tup [.int i]) = false := fun i hi => by
    cases hb : isBelow N.pl (.tup [.int i]) with
    | false => rfl
    | true =>
      obtain ⟨ns, e, h⟩ := isBelow_iff.mp hb
      have : ns = [i] := by
        injection e with e
        match ns, e with
        | [j], e => simp at e; rw [e]
      subst this
      exact absurd (below_mem h (p := i) (by simp)) hi
  have two : ∀ i j : Int, ¬ i < j → isBelow N.pl (.tup [.int i, .int j]) = false := fun i j hi => by
    cases hb : isBelow N.pl (.tup [.int i, .int j]) with
    | false => rfl
    | true =>
      obtain ⟨ns, e, h⟩ := isBelow_iff.mp hb
      have : ns = [i, j] := by
        injection e with e
        match ns, e with
        | [a, c], e => simp at e; rw [e.1, e.2]
      subst this
      have := below_pair h
      simp at this
      exact absurd this hi
  have h2 := hN.p2
  simp at hx
  rcases hx with rfl | rfl | rfl | rfl | rfl | rfl | rfl | rfl
  · exact ⟨by simp, rfl⟩
  · exact ⟨by simp, rfl⟩
  · exact ⟨⟨by simp, by simp⟩, one _ (by omega)⟩
  · exact ⟨⟨by simp, by simp⟩, two _ _ (by omega)⟩
  · exact ⟨⟨by simp, by simp⟩, two _ _ (by omega)⟩
  · exact ⟨Dat_str.mpr (by decide +kernel), rfl⟩
  · exact ⟨⟨by simp, by simp⟩, one _ (by omega)⟩
  · exact ⟨⟨by simp, by simp⟩, rfl⟩
def mk (xs ns : List Int) (l : List Sl) (n : Nat) : Ms := ⟨.val (.ro (dInts xs)) :: .val (rowD ns) :: .val (.loc 0) :: l, [spot n]⟩
/-- a step asked -/
theorem turn1 {xs ns : List Int} (h0 : ns ≠ []) {N : Nt} (hN : N.Ok) {mk0 : List Int} (h : MkOk N mk0) {s : Wh.St} (hs : s ∈ N.ss) {n : Nat} {s4 s5 s9 s10 s11 s12 s13 : Sl} :
    ∃ n' a10 a11 a12, lp_law_1 (mk xs ns [.val N.dat, s4, s5, .val (mkD mk0), .val (.lst ((enS N mk0).map Wh.St.dat)), .val s.dat, s9, s10, s11, s12, s13] n) =
      .next (mk xs ns [.val N.dat, s4, s5, .val (mkD mk0), .val (.lst ((enS N mk0).map Wh.St.dat)), .val s.dat, s9, a10, a11, a12, s13] n') := by
  have hP := hN.p8
  have os := hN.st s hs
  have hl := h.len hN
  have hdN : Dat 9 N.dat := hN.dat (k := 3)
  have hdm : Dat 9 (mkD mk0) := mkD_dat (by omega) (k := 8)
  obtain ⟨d1, n1, hh, e1⟩ := handed_s (T := []) h0 (n := n) hdN.tups
  have e2 := fun S => law_taken_t (S := S) hl (os.ol (by omega)) h.rise os.ro
  have e3 := fun S => told_t (S := S) h hN hh hdm.tups.self (z := s.nm)
  have e4 := fun m => in_steps hN hs (q := fun s => en s mk0) (neg := false) (m := m)
  have ee : enS N mk0 = N.ss.filter fun s => en s mk0 := rfl
  have hfe := find_en hN hs (mk := mk0)
  unfold toldD at e3
  rw [hfe] at e3
  rw [ee] at *
  have hnew : (newOf s mk0).length ≤ 16777216 := by
    have := (h.new hN hs).len hN
    omega
  generalize (N.ss.filter fun s => en s mk0).map Wh.St.dat = L at *
  cases hc : en s mk0 with
  | false =>
    rw [hc] at e3 e4
    have so := fun S => so10 (S := S) (tag_dat (k := 8) (.inl rfl) (i := 2))
    simp only [Bool.false_eq_true, if_false] at e3 e4
    cases ht : tkD s mk0 with
    | none =>
      rw [ht] at e2
      exact ⟨n1, .val (mkD (newOf s mk0)), .val (mkD (newOf s mk0)), .val .non, by simp [mk, lp_law_1, e1, e2, e3, e4, so, optI, -ev_in_lst]⟩
    | some p =>
      rw [ht] at e2
      exact ⟨n1, .val (.tup [.str "doubled", .int p]), .val (mkD (newOf s mk0)), .val (.int p), by simp [mk, lp_law_1, e1, e2, e3, e4, so, optI, -ev_in_lst]⟩
  | true =>
    rw [hc] at e3 e4
    simp only [if_true] at e3 e4
    cases ht : tkD s mk0 with
    | none =>
      rw [ht] at e2 e3
      simp only at e3
      have so := fun S => so10 (S := S) (mkD_dat hnew (k := 8))
      exact ⟨n1, .val (mkD (newOf s mk0)), .val (mkD (newOf s mk0)), .val .non, by simp [mk, lp_law_1, e1, e2, e3, e4, so, optI, -ev_in_lst]⟩
    | some p =>
      rw [ht] at e2 e3
      simp only at e3
      have so := fun S => so10 (S := S) (tag_dat (k := 8) (.inr rfl) (i := p))
      exact ⟨n1, .val (.tup [.str "doubled", .int p]), .val (mkD (newOf s mk0)), .val (.int p), by simp [mk, lp_law_1, e1, e2, e3, e4, so, optI, -ev_in_lst]⟩
theorem loop1 {xs ns : List Int} (h0 : ns ≠ []) {N : Nt} (hN : N.Ok) {mk0 : List Int} (h : MkOk N mk0) {s4 s5 s9 s13 : Sl} : ∀ (ss : List Wh.St), (∀ s ∈ ss, s ∈ N.ss) → ∀ (n : Nat) (s8 s10 s11 s12 : Sl), notOwn (some s8) = true →
    ∃ n' a8 a10 a11 a12, notOwn (some a8) = true ∧ forD (tgN 8) lp_law_1 (ss.map Wh.St.dat) (mk xs ns [.val N.dat, s4, s5, .val (mkD mk0), .val (.lst ((enS N mk0).map Wh.St.dat)), s8, s9, s10, s11, s12, s13] n) =
      .next (mk xs ns [.val N.dat, s4, s5, .val (mkD mk0), .val (.lst ((enS N mk0).map Wh.St.dat)), a8, s9, a10, a11, a12, s13] n')
  | [], _, n, s8, s10, s11, s12, h8 => ⟨n, s8, s10, s11, s12, h8, rfl⟩
  | s :: ss, hs, n, s8, s10, s11, s12, _ => by
    obtain ⟨n1, a10, a11, a12, e1⟩ := turn1 (xs := xs) h0 hN h (hs s (by simp)) (n := n) (s4 := s4) (s5 := s5) (s9 := s9) (s10 := s10) (s11 := s11) (s12 := s12) (s13 := s13)
    obtain ⟨n2, b8, b10, b11, b12, h8, e2⟩ := loop1 h0 hN h ss (fun t ht => hs t (by simp [ht])) n1 (.val s.dat) a10 a11 a12 rfl (xs := xs) (s4 := s4) (s5 := s5) (s9 := s9) (s13 := s13)
    refine ⟨n2, b8, b10, b11, b12, h8, ?_⟩
    rw [List.map_cons, ev_for_cons]
    have : forB lp_law_1 (tgN 8 s.dat (mk xs ns [.val N.dat, s4, s5, .val (mkD mk0), .val (.lst ((enS N mk0).map Wh.St.dat)), s8, s9, s10, s11, s12, s13] n)) = .next (mk xs ns [.val N.dat, s4, s5, .val (mkD mk0), .val (.lst ((enS N mk0).map Wh.St.dat)), .val s.dat, s9, a10, a11, a12, s13] n1) := by
      unfold mk at e1 ⊢
      simpa using e1
    rw [this]
    exact e2
/-- a turn -/
theorem turn2 {xs ns : List Int} (h0 : ns ≠ []) {N : Nt} (hN : N.Ok) (hnm : N.Nm) {i : Int} {n : Nat} {s5 s6 s7 s8 s9 s10 s11 s12 : Sl} (h8 : notOwn (some s8) = true) :
    ∃ n' a6 a7 a8 a9 a10 a11 a12, notOwn (some a8) = true ∧ lp_law_2 (mk xs ns [.val N.dat, .val (.int i), s5, s6, s7, s8, s9, s10, s11, s12, .un] n) =
      .next (mk xs ns [.val N.dat, .val (.int i), s5, a6, a7, a8, a9, a10, a11, a12, .un] n') := by
  have ts : ∀ (lim : Int) (k : Nat) (T : Store), 0 < lim → F_law_take [rowD ns, .loc 0, .int lim] (spot k :: T) = .ok (.int (dr ns k lim)) (spot (k + 1) :: T) := fun lim k T h => take_s h0 h
  have hdN : Dat 9 N.dat := hN.dat (k := 3)
  have p2 := hN.p2
  have p8 := hN.p8
  obtain ⟨P, hP⟩ : ∃ P : Nat, N.pl = P := ⟨N.pl.toNat, by omega⟩
  -- a drawn marking
  obtain ⟨fs, n1, hs, _, e1⟩ := some_s (T := []) (vs := [13]) (tg := tgN 13) (t := tOf (Wd.e2 (oEq false) (fCall F_law_take (aCons (eVar 1) (aCons (eVar 2) (aCons (eC (.int 2)) aNil)))) (eC (.int 0)))) (f := eVar 13)
    (r := [.val (.ro (dInts xs)), .val (rowD ns), .val (.loc 0), .val N.dat, .val (.int i), s5, s6, s7, s8, s9, s10, s11, s12, .un]) (q := fun _ => True) (L := P) (by omega)
    (fun j k hj => by
      refine ⟨k + 1, ?_⟩
      have t := ts 2 k [] (by decide)
      by_cases z : dr ns k 2 = 0
      · exact .inl ⟨trivial, by simp [t, z]⟩
      · exact .inr (by simp [t, z])) n
  obtain ⟨hb1, hb2⟩ := sub_upto hs
  have g1 : MkOk N fs := by
    unfold MkOk
    rw [hP]
    exact below_of hb1 hb2
  -- or that of a run
  obtain ⟨mk0, n2, h, e2⟩ : ∃ (mk0 : List Int) (n2 : Nat), MkOk N mk0 ∧ sIf (tOf (Wd.e2 oLt (eVar 4) (eC (.int 3)))) (sSet 6 (Wd.e2 oIx (fCall F_law_drawn_run (aCons (eVar 1) (aCons (eVar 2) (aCons (eVar 3) (aCons (fCall F_law_take (aCons (eVar 1) (aCons (eVar 2) (aCons (eC (.int 9)) aNil)))) aNil))))) (eC (.int 1)))) sNil
      (mk xs ns [.val N.dat, .val (.int i), s5, .val (mkD fs), s7, s8, s9, s10, s11, s12, .un] n1) = .next (mk xs ns [.val N.dat, .val (.int i), s5, .val (mkD mk0), s7, s8, s9, s10, s11, s12, .un] n2) := by
    by_cases hi : i < 3
    · have t := ts 9 n1 [] (by decide)
      have y0 := dr_nonneg (ns := ns) (k := n1) (lim := 9) (by decide)
      have y1 := dr_lt (ns := ns) (k := n1) (lim := 9) (by decide)
      generalize dr ns n1 9 = q at t y0 y1
      obtain ⟨many, rfl⟩ : ∃ many : Nat, q = many := ⟨q.toNat, by omega⟩
      obtain ⟨zs, mk1, n3, h1, h2, h3, h4, h5⟩ := drawn_run_s (T := []) h0 hN (many := many) (n := n1 + 1) (by omega)
      exact ⟨mk1, n3, h3, by simp [mk, hi, t, h5]⟩
    · exact ⟨fs, n1, g1, by simp [mk, hi]⟩
  have hl := h.len hN
  have hdm : Dat 9 (mkD mk0) := mkD_dat (by omega) (k := 8)
  -- enabled
  have e3 := fun S => law_enabled_t (S := S) (mk := mk0) hN.short
  obtain ⟨d1, n3, hh1, e4⟩ := handed_s (T := []) h0 (n := n2) hdN.tups
  obtain ⟨d2, n4, hh2, e5⟩ := handed_s (T := []) h0 (n := n3) hdm.tups
  have e6 := fun S => etold_t (S := S) h hN hh1 hh2
  have hz : ∀ z ∈ (enS N mk0).map Wh.St.nm, wordS z = true := fun z hz => by
    obtain ⟨s, hs, rfl⟩ := List.mem_map.mp hz
    exact (hN.st s (List.mem_filter.mp hs).1).nm
  have hle : (enS N mk0).length ≤ 10 := by
    have := hN.len
    have h2 := List.length_filter_le (fun s => en s mk0) N.ss
    unfold enS
    omega
  have so1 := fun S => so10 (S := S) (strs_dat (k := 8) hz (by simp; omega))
  -- the steps
  obtain ⟨n5, a8, a10, a11, a12, b8, e7⟩ := loop1 (xs := xs) h0 hN h (s4 := .val (.int i)) (s5 := s5) (s9 := s9) (s13 := .un) N.ss (fun s hs => hs) n4 s8 s10 s11 s12 h8
  -- what is no name
  obtain ⟨x, hx, e8⟩ := pick_s (T := []) h0 (n := n5) (ds := [D.non, .int 7, .str "zz", .str "", .tup [.str "ask"], .bl true]) (by simp)
  have e9 := fun S => told_exc (fun S => after_wrong (S := S) h hN hnm hx) (S := S)
  have so2 := fun S => so10 (S := S) (tag_dat (k := 8) (.inl rfl) (i := 2))
  have hll : (((enS N mk0).map Wh.St.nm).map D.str).length ≤ 16777216 := by simp; omega
  refine ⟨n5 + 1, .val (mkD mk0), .val (.lst ((enS N mk0).map Wh.St.dat)), a8, .val x, a10, a11, a12, b8, ?_⟩
  unfold mk at e2 e7 ⊢
  unfold lp_law_2
  rw [← hP] at e1
  have c1 : -1000000000 ≤ N.pl := by omega
  rw [show mkD fs = .tup (dInts fs) from rfl] at e2
  have c2 : N.pl ≤ 1000000000 := by omega
  have hfl := hs.length_le
  have hfl2 : fs.length ≤ 16777216 := by simp at hfl; omega
  generalize sIf (tOf (Wd.e2 oLt (eVar 4) (eC (.int 3)))) (sSet 6 (Wd.e2 oIx (fCall F_law_drawn_run (aCons (eVar 1) (aCons (eVar 2) (aCons (eVar 3) (aCons (fCall F_law_take (aCons (eVar 1) (aCons (eVar 2) (aCons (eC (.int 9)) aNil)))) aNil))))) (eC (.int 1)))) sNil = st2 at *
  have hle2 : (enS N mk0).length ≤ 16777216 := by omega
  simp only [List.map_map, Function.comp_def] at e6 so1
  generalize enS N mk0 = L at *
  simp [h8, c1, c2, hfl2, e1, e2, e3, e4, e5, e6, so1, e7, e8, e9, so2, hle2]
theorem law_true (xs : List Int) (hx : xs.length ≤ 63) : ∃ S, F_law [.ro (xs.map .int)] [] = .ok (.bl true) S := by
  obtain ⟨ns, h0, hnl, e1⟩ := numbers_ok (xs := xs) (S := [])
  have e1 : F_law_numbers [.ro (dInts xs)] [] = .ok (rowD ns) [] := e1
  obtain ⟨N, n1, hN, hnm, e2⟩ := net_s' (T := []) h0 (n := 0)
  obtain ⟨m1, l1, n3, a4, a6, a7, a8, a9, a10, a11, a12, _, em1⟩ := forD_inv (tg := tgN 4) (F := lp_law_2)
    (P := fun i m => ∃ n' a4 a6 a7 a8 a9 a10 a11 a12, notOwn (some a8) = true ∧ m = mk xs ns [.val N.dat, a4, .un, a6, a7, a8, a9, a10, a11, a12, .un] n')
    (rgD 0 5) 0 (mk xs ns [.val N.dat, .un, .un, .un, .un, .un, .un, .un, .un, .un, .un] n1)
    (fun i d m hi ⟨n', a4, a6, a7, a8, a9, a10, a11, a12, g8, em⟩ => by
      subst em
      obtain ⟨j, rfl⟩ : ∃ j : Int, d = .int j := by
        have hm := List.mem_of_getElem? hi
        unfold rgD at hm
        simp at hm
        obtain ⟨j, _, rfl⟩ := hm
        exact ⟨_, rfl⟩
      obtain ⟨n'', b6, b7, b8, b9, b10, b11, b12, c8, et⟩ := turn2 (xs := xs) h0 hN hnm (i := j) (n := n') (s5 := .un) (s6 := a6) (s7 := a7) (s8 := a8) (s9 := a9) (s10 := a10) (s11 := a11) (s12 := a12) g8
      exact ⟨_, .inl (by unfold mk at et ⊢; simpa using et), n'', .val (.int j), b6, b7, b8, b9, b10, b11, b12, c8, rfl⟩)
    ⟨n1, .un, .un, .un, .un, .un, .un, .un, .un, rfl, rfl⟩
  subst em1
  have hdN : Dat 9 N.dat := hN.dat (k := 3)
  obtain ⟨x, hx2, e4⟩ := pick_s (T := []) h0 (n := n3) (ds := [D.non, .int 7, .tup [.int N.pl], .tup [.int 1, .int 0], .tup [.int 0, .int 0], .str "0", .tup [.int (-1)], .tup [.bl true]]) (by simp)
  obtain ⟨hd, hb⟩ := off_ok hN hx2
  have e5 := fun S => enabled_bad (S := S) hN (hdN.tups.self : Hand 9 N.dat N.dat) hd hd.tups.self hb
  have e6 := fun S => after_bad (S := S) hN (hdN.tups.self : Hand 9 N.dat N.dat) hd hd.tups.self hb (z := .non)
  have e7 := fun S => told_exc e6 (S := S)
  have e8 : ∀ S, F_law_enabled_told [N.dat, x] S = .ok (.tup [.str "bad", .int 1]) S := fun S => by
    simp [F_law_enabled_told, b_law_enabled_told, ev_run, e5]
  have so2 := fun S => so10 (S := S) (tag_dat (k := 8) (.inl rfl) (i := 1))
  have s0 : SO.lst [D.int 0] = spot 0 := rfl
  refine ⟨[spot (n3 + 1)], ?_⟩
  unfold mk at l1
  simp [F_law, b_law, ev_run, e1, s0, e2, l1, e4, e7, e8, so2]
end Lk02
theorem PySem.Challenge.cw_wholeflow_k02_steps_of_nets_holds : PySem.Challenge.rw_wholeflow_k02_steps_of_nets.Holds := by
  exact Lk02.fin Lk02.law_true

